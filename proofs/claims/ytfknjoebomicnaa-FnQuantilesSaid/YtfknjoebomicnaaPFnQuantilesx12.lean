-- Written by this session's changed copy of the kit's printer (wip/patch_print.py): not the kit's own print.
import Derived.Test.YtfknjoebomicnaaPFnQuantilesx0
import Derived.Test.YtfknjoebomicnaaPFnQuantilesx1
import Derived.Test.YtfknjoebomicnaaPFnQuantilesx2
import Derived.Test.YtfknjoebomicnaaPFnQuantilesx11
namespace Go.Proofs.Ytfknjoebomicnaa.PFnQuantiles
open Go.RowKit Go.Proofs.YtfknjoebomicnaaW.PrintWords Go.Proofs.YtfknjoebomicnaaW.PrintLast Go.Proofs.YtfknjoebomicnaaW.PrintMore
attribute [local go_sem] max2_int min2_int max_two min_two max_three min_three max_four min_four   -- for this text's walks alone
set_option linter.unusedVariables false
set_option linter.unusedSimpArgs false
theorem Z12x0 {p : Prop} (h : p := by repeat (first | (with_reducible first | exact HB.out | apply below_alloc | apply pw_below_drewN | apply below_drew1 | refine below_set ?_ GE378.out) | exact HB.out)) : p := h
theorem Z12x1 {p : Prop} (h : p := by (with_reducible repeat (first | refine blk_drewN ?_ _ | refine blk_drew ?_ | refine blk_alloc ?_ _)); exact BK378.out) : p := h
theorem Z12x2 {p : Prop} (h : p := by (try simp only [List.map_toArray, List.map_cons, List.map_nil]); first | done | rfl | (simp only [List.length_drop, List.length_take]; rfl)) : p := h
theorem Z12x3 {p : Prop} (h : p := by repeat (first | exact (Kd.C_below HR0_4.out HB.out) | (with_reducible refine Kd.C_alloc ?_ _) | (with_reducible refine Kd.C_drewN ?_ _) | (with_reducible refine Kd.C_drew ?_))) : p := h
theorem Z12x4 {p : Prop} (h : p := by repeat (first | exact (Kd.C_below HR0_5.out HB.out) | (with_reducible refine Kd.C_alloc ?_ _) | (with_reducible refine Kd.C_drewN ?_ _) | (with_reducible refine Kd.C_drew ?_))) : p := h
theorem Z12x5 {p : Prop} (h : p := by repeat (first | exact (Kd.C_below HR0_6.out HB.out) | (with_reducible refine Kd.C_alloc ?_ _) | (with_reducible refine Kd.C_drewN ?_ _) | (with_reducible refine Kd.C_drew ?_))) : p := h
theorem Z12x6 {p : Prop} (h : p := by first | rfl | (simp; done) | (simp [*]; done)) : p := h
theorem Z12x7 {p : Prop} (h : p := by first | rfl | (simp [errW_none, errW_some] <;> rfl) | (simp [*, errW_none, errW_some] <;> rfl)) : p := h
theorem Z12x8 {p : Prop} (h : p := by repeat (first | (with_reducible first | exact HB.out | apply below_alloc | apply pw_below_drewN | apply below_drew1) | exact HB.out)) : p := h
theorem Z12x9 {p : Prop} (h : p := by first | (with_reducible assumption) | assumption) : p := h

mutual
def spec_Quantile.j0 : Nat → Int → Bool → Int → Int → Int → Int → List Int → List Int → List (List Int) → Option (Int × Int)
 | 0, _, _, _, _, _, _, _, _, _ => none
 | k + 1, x1, x21, x379000, x379001, x379002, x379003, x379004, x379005, x379006 => if x21 = true then (some (0, 0)) else ((spec_l4Sum.f k x379004).bind fun t381 => (spec_Quantile.l0 k x1 t381 0 0 x379000 x379001 x379002 x379003 x379004 x379005 x379006))
def spec_Quantile.l0 : Nat → Int → Int → Int → Int → Int → Int → Int → Int → List Int → List Int → List (List Int) → Option (Int × Int)
 | 0, _, _, _, _, _, _, _, _, _, _, _ => none
 | k + 1, x1, x6, x7, x8, x379000, x379001, x379002, x379003, x379004, x379005, x379006 => if x8 < 8 then (if 0 ≤ x8 then (if x8 < (x379004.length : Int) then (if (rd x379004 x8) > 0 then (spec_Quantile.j2 k x1 x6 (wrap64 (x7 + (rd x379004 x8))) x8 (decide ((wrap64 ((wrap64 (x7 + (rd x379004 x8))) * 1000)) ≥ (wrap64 (x1 * x6)))) x379000 x379001 x379002 x379003 x379004 x379005 x379006) else (spec_Quantile.j2 k x1 x6 (wrap64 (x7 + (rd x379004 x8))) x8 false x379000 x379001 x379002 x379003 x379004 x379005 x379006)) else (none)) else (none)) else (some (0, 0))
def spec_Quantile.j2 : Nat → Int → Int → Int → Int → Bool → Int → Int → Int → Int → List Int → List Int → List (List Int) → Option (Int × Int)
 | 0, _, _, _, _, _, _, _, _, _, _, _, _ => none
 | k + 1, x1, x6, x7, x8, x49, x379000, x379001, x379002, x379003, x379004, x379005, x379006 => if x49 = true then (if x8 = 7 then ((spec_Low.f x8).bind fun t384 => (some (t384, 1000000))) else ((spec_Low.f x8).bind fun t385 => ((spec_Low.f (wrap64 (x8 + 1))).bind fun t386 => (some (t385, wrap64 (t386 - 1)))))) else (spec_Quantile.l0 k x1 x6 x7 (wrap64 (x8 + 1)) x379000 x379001 x379002 x379003 x379004 x379005 x379006)
end
def spec_Quantile.f (k : Nat) (a0_0 : Int) (a0_1 : Int) (a0_2 : Int) (a0_3 : Int) (l0_4 : List Int) (l0_5 : List Int) (l0_6 : List (List Int)) (a1 : Int) : Option (Int × Int) := (spec_SketchOk.f k a0_0 a0_1 a0_2 a0_3 l0_4 l0_5 l0_6).bind fun t379 => (if t379 = true then (if a0_0 = 0 then (spec_Quantile.j0 k a1 true a0_0 a0_1 a0_2 a0_3 l0_4 l0_5 l0_6) else ((spec_l1In.f a1 1 1000).bind fun t380 => (spec_Quantile.j0 k a1 (!t380) a0_0 a0_1 a0_2 a0_3 l0_4 l0_5 l0_6))) else (spec_Quantile.j0 k a1 true a0_0 a0_1 a0_2 a0_3 l0_4 l0_5 l0_6))
theorem spec_Quantile.mono_l : ∀ k, (∀ y0 y1 y2 y3 y4 y5 y6 y7 y8, LeO (spec_Quantile.j0 k y0 y1 y2 y3 y4 y5 y6 y7 y8) (spec_Quantile.j0 (k + 1) y0 y1 y2 y3 y4 y5 y6 y7 y8)) ∧ (∀ y0 y1 y2 y3 y4 y5 y6 y7 y8 y9 y10, LeO (spec_Quantile.l0 k y0 y1 y2 y3 y4 y5 y6 y7 y8 y9 y10) (spec_Quantile.l0 (k + 1) y0 y1 y2 y3 y4 y5 y6 y7 y8 y9 y10)) ∧ (∀ y0 y1 y2 y3 y4 y5 y6 y7 y8 y9 y10 y11, LeO (spec_Quantile.j2 k y0 y1 y2 y3 y4 y5 y6 y7 y8 y9 y10 y11) (spec_Quantile.j2 (k + 1) y0 y1 y2 y3 y4 y5 y6 y7 y8 y9 y10 y11))
 | 0 => ⟨fun _ _ _ _ _ _ _ _ _ r h => by simp [spec_Quantile.j0] at h, fun _ _ _ _ _ _ _ _ _ _ _ r h => by simp [spec_Quantile.l0] at h, fun _ _ _ _ _ _ _ _ _ _ _ _ r h => by simp [spec_Quantile.j2] at h⟩
 | k + 1 => by
  obtain ⟨ih0, ih1, ih2⟩ := spec_Quantile.mono_l k
  refine ⟨?_, ?_, ?_⟩
  ·intro y0 y1 y2 y3 y4 y5 y6 y7 y8
   unfold spec_Quantile.j0
   repeat' first
   | (with_reducible exact ih0 _ _ _ _ _ _ _ _ _)
   | (with_reducible exact ih1 _ _ _ _ _ _ _ _ _ _ _)
   | (with_reducible exact ih2 _ _ _ _ _ _ _ _ _ _ _ _)
   | (with_reducible exact spec_SketchOk.mono _ _ _ _ _ _ _ _)
   | (with_reducible exact spec_l4Sum.mono _ _)
   | (with_reducible exact LeO.refl _)
   | (with_reducible exact LeO.none _)
   | (with_reducible refine LeO.ite ?_ ?_)
   | (with_reducible refine LeO.bind ?_ (fun _ => ?_))
   | exact ih0 _ _ _ _ _ _ _ _ _
   | exact ih1 _ _ _ _ _ _ _ _ _ _ _
   | exact ih2 _ _ _ _ _ _ _ _ _ _ _ _
   | exact spec_SketchOk.mono _ _ _ _ _ _ _ _
   | exact spec_l4Sum.mono _ _
   | exact LeO.none _
   | refine LeO.ite ?_ ?_
   | refine LeO.bind ?_ (fun _ => ?_)
  ·intro y0 y1 y2 y3 y4 y5 y6 y7 y8 y9 y10
   unfold spec_Quantile.l0
   repeat' first
   | (with_reducible exact ih0 _ _ _ _ _ _ _ _ _)
   | (with_reducible exact ih1 _ _ _ _ _ _ _ _ _ _ _)
   | (with_reducible exact ih2 _ _ _ _ _ _ _ _ _ _ _ _)
   | (with_reducible exact spec_SketchOk.mono _ _ _ _ _ _ _ _)
   | (with_reducible exact spec_l4Sum.mono _ _)
   | (with_reducible exact LeO.refl _)
   | (with_reducible exact LeO.none _)
   | (with_reducible refine LeO.ite ?_ ?_)
   | (with_reducible refine LeO.bind ?_ (fun _ => ?_))
   | exact ih0 _ _ _ _ _ _ _ _ _
   | exact ih1 _ _ _ _ _ _ _ _ _ _ _
   | exact ih2 _ _ _ _ _ _ _ _ _ _ _ _
   | exact spec_SketchOk.mono _ _ _ _ _ _ _ _
   | exact spec_l4Sum.mono _ _
   | exact LeO.none _
   | refine LeO.ite ?_ ?_
   | refine LeO.bind ?_ (fun _ => ?_)
  ·intro y0 y1 y2 y3 y4 y5 y6 y7 y8 y9 y10 y11
   unfold spec_Quantile.j2
   repeat' first
   | (with_reducible exact ih0 _ _ _ _ _ _ _ _ _)
   | (with_reducible exact ih1 _ _ _ _ _ _ _ _ _ _ _)
   | (with_reducible exact ih2 _ _ _ _ _ _ _ _ _ _ _ _)
   | (with_reducible exact spec_SketchOk.mono _ _ _ _ _ _ _ _)
   | (with_reducible exact spec_l4Sum.mono _ _)
   | (with_reducible exact LeO.refl _)
   | (with_reducible exact LeO.none _)
   | (with_reducible refine LeO.ite ?_ ?_)
   | (with_reducible refine LeO.bind ?_ (fun _ => ?_))
   | exact ih0 _ _ _ _ _ _ _ _ _
   | exact ih1 _ _ _ _ _ _ _ _ _ _ _
   | exact ih2 _ _ _ _ _ _ _ _ _ _ _ _
   | exact spec_SketchOk.mono _ _ _ _ _ _ _ _
   | exact spec_l4Sum.mono _ _
   | exact LeO.none _
   | refine LeO.ite ?_ ?_
   | refine LeO.bind ?_ (fun _ => ?_)
theorem spec_Quantile.mono : ∀ a0 a1 a2 a3 a4 a5 a6 a7 k, LeO (spec_Quantile.f k a0 a1 a2 a3 a4 a5 a6 a7) (spec_Quantile.f (k + 1) a0 a1 a2 a3 a4 a5 a6 a7) := by
 intro a0 a1 a2 a3 a4 a5 a6 a7 k
 obtain ⟨ih0, ih1, ih2⟩ := spec_Quantile.mono_l k
 unfold spec_Quantile.f
 repeat' first
   | (with_reducible exact ih0 _ _ _ _ _ _ _ _ _)
   | (with_reducible exact ih1 _ _ _ _ _ _ _ _ _ _ _)
   | (with_reducible exact ih2 _ _ _ _ _ _ _ _ _ _ _ _)
   | (with_reducible exact spec_SketchOk.mono _ _ _ _ _ _ _ _)
   | (with_reducible exact spec_l4Sum.mono _ _)
   | (with_reducible exact LeO.refl _)
   | (with_reducible exact LeO.none _)
   | (with_reducible refine LeO.ite ?_ ?_)
   | (with_reducible refine LeO.bind ?_ (fun _ => ?_))
   | exact ih0 _ _ _ _ _ _ _ _ _
   | exact ih1 _ _ _ _ _ _ _ _ _ _ _
   | exact ih2 _ _ _ _ _ _ _ _ _ _ _ _
   | exact spec_SketchOk.mono _ _ _ _ _ _ _ _
   | exact spec_l4Sum.mono _ _
   | exact LeO.none _
   | refine LeO.ite ?_ ?_
   | refine LeO.bind ?_ (fun _ => ?_)
set_option maxHeartbeats 8000000 in
set_option maxRecDepth 100000 in
theorem spec_Quantile.calls (k : Nat) (a0_0 : Int) (a0_1 : Int) (a0_2 : Int) (a0_3 : Int) (A0_4 : Option Addr) (c0_4 : Nat) (l0_4 : List Int) (A0_5 : Option Addr) (c0_5 : Nat) (l0_5 : List Int) (A0_6 : Option Addr) (c0_6 : Nat) (l0_6 : List (List Int)) (a1 : Int) (r1 : Int) (r2 : Int) (w : World) (hr0_4 : Kd.C (Kd.int .i64) w A0_4 l0_4.length l0_4) (hc0_4 : l0_4.length ≤ c0_4) (hr0_5 : Kd.C (Kd.int .i64) w A0_5 l0_5.length l0_5) (hc0_5 : l0_5.length ≤ c0_5) (hr0_6 : Kd.C (Kd.slice 3 (Kd.int .i64)) w A0_6 l0_6.length l0_6) (hc0_6 : l0_6.length ≤ c0_6) (h : spec_Quantile.f k a0_0 a0_1 a0_2 a0_3 l0_4 l0_5 l0_6 a1 = some (r1, r2)) :
  Calls Try.prog 38 #[.agg #[.int .i64 a0_0, .int .i64 a0_1, .int .i64 a0_2, .int .i64 a0_3, .slice A0_4 l0_4.length c0_4, .slice A0_5 l0_5.length c0_5, .slice A0_6 l0_6.length c0_6], .int .i64 a1] w fun e w' => e = .returned (.tuple #[.int .i64 r1, .int .i64 r2]) ∧ Below w.heap.size w w' := by
 have hu26 := Try.underlying26
 have HR0_4 := Aside0.mk hr0_4
 have HC0_4 := Aside0.mk hc0_4
 clear hr0_4 hc0_4
 have HR0_5 := Aside0.mk hr0_5
 have HC0_5 := Aside0.mk hc0_5
 clear hr0_5 hc0_5
 have HR0_6 := Aside0.mk hr0_6
 have HC0_6 := Aside0.mk hc0_6
 clear hr0_6 hc0_6
 have HB := Aside0.mk (Below.refl w.heap.size w)
 have H : ((spec_SketchOk.f k a0_0 a0_1 a0_2 a0_3 l0_4 l0_5 l0_6).bind fun t379 => (if t379 = true then (if a0_0 = 0 then (spec_Quantile.j0 k a1 true a0_0 a0_1 a0_2 a0_3 l0_4 l0_5 l0_6) else ((spec_l1In.f a1 1 1000).bind fun t380 => (spec_Quantile.j0 k a1 (!t380) a0_0 a0_1 a0_2 a0_3 l0_4 l0_5 l0_6))) else (spec_Quantile.j0 k a1 true a0_0 a0_1 a0_2 a0_3 l0_4 l0_5 l0_6))) = some (r1, r2) := h
 clear h
 have HC3 := Aside0.mk H
 clear H
 go_enter Try.func38, Try.ntmps38
 go_upto_region 1 with (first | ((with_reducible refine gate_dst (N := 2) rfl ?_); refine box_event ?hg (N := 2) ?hd (cs := #[.int .i64 a0_0, .int .i64 a0_1, .int .i64 a0_2, .int .i64 a0_3, .slice A0_4 l0_4.length c0_4, .slice A0_5 l0_5.length c0_5, .slice A0_6 l0_6.length c0_6]) (t := 26) ?hr ?_; (case hd => rfl); (case hg => rfl); (case hr => first | (go_simp; done) | (go_simp; rfl)); intro gb378 hg w4 hbox hb; have n0_ := Aside0.mk (below_step Z12x8 hb); have n1_ := Aside0.mk (hbox); have n2_ := Aside0.mk ((by rw [hg]; exact (below_size Z12x8) : w.heap.size ≤ gb378)); have n3_ := Aside0.mk ((by rw [hg]; exact (below_size Z12x8) : w.heap.size ≤ gb378)); clear HB; have HB := n0_; have BK378 := n1_; have GW378 := n2_; have GE378 := n3_; clear n0_ n1_ n2_ n3_; clear hb hbox hg))
 (try simp only [Act.put, List.setIfInBounds_toArray, List.set_cons_zero, List.set_cons_succ])
 go_cut [21] (fun v21 wc => ∃ (kq : Nat) (x21_2 : Bool), v21 = .bool x21_2 ∧ Aside0 (spec_Quantile.j0 kq a1 x21_2 a0_0 a0_1 a0_2 a0_3 l0_4 l0_5 l0_6 = some (r1, r2)) ∧ Aside0 (kq ≤ k) ∧ Aside0 (wc.heap[gb378]? = some (.cells #[.int .i64 a0_0, .int .i64 a0_1, .int .i64 a0_2, .int .i64 a0_3, (.slice A0_4 l0_4.length c0_4), (.slice A0_5 l0_5.length c0_5), (.slice A0_6 l0_6.length c0_6)] 26 (0, 0))) ∧ Aside0 (Below w.heap.size w wc))
 case first =>
  have H := HC3.out
  clear HC3
  replace H := Option.bind_eq_some_iff.mp H
  obtain ⟨t379, A50, H⟩ := H
  replace H : (if t379 = true then (if a0_0 = 0 then (spec_Quantile.j0 k a1 true a0_0 a0_1 a0_2 a0_3 l0_4 l0_5 l0_6) else ((spec_l1In.f a1 1 1000).bind fun t380 => (spec_Quantile.j0 k a1 (!t380) a0_0 a0_1 a0_2 a0_3 l0_4 l0_5 l0_6))) else (spec_Quantile.j0 k a1 true a0_0 a0_1 a0_2 a0_3 l0_4 l0_5 l0_6)) = some (r1, r2) := H
  have A5 := Aside0.mk A50
  clear A50
  by_cases c6 : t379 = true
  ·subst c6
   have H1 : (if a0_0 = 0 then (spec_Quantile.j0 k a1 true a0_0 a0_1 a0_2 a0_3 l0_4 l0_5 l0_6) else ((spec_l1In.f a1 1 1000).bind fun t380 => (spec_Quantile.j0 k a1 (!t380) a0_0 a0_1 a0_2 a0_3 l0_4 l0_5 l0_6))) = some (r1, r2) := by rw [if_pos rfl] at H; exact H
   clear H
   have H := H1
   clear H1
   by_cases c7 : a0_0 = 0
   ·rw [if_pos c7] at H
    have c7b0 : (a0_0 == 0) = true := beq_iff_eq.mpr c7
    have c7b1 : (a0_0 != 0) = false := bne_eq_false_iff_eq.mpr c7
    clear c7
    (first | rw [c7b0] | (simp only [i64_w, i32_w]; rw [c7b0]) | rw [c7b1] | rw [c7b2] | rw [c7b3] | skip)
    have H' := Aside0.mk H
    clear H
    have hcz8_0 : w4.cell? ⟨gb378, 0, none⟩ = some (.int .i64 a0_0) := (blk_cell BK378.out 0).trans rfl
    have hcz8_1 : w4.cell? ⟨gb378, 1, none⟩ = some (.int .i64 a0_1) := (blk_cell BK378.out 1).trans rfl
    have hcz8_2 : w4.cell? ⟨gb378, 2, none⟩ = some (.int .i64 a0_2) := (blk_cell BK378.out 2).trans rfl
    have hcz8_3 : w4.cell? ⟨gb378, 3, none⟩ = some (.int .i64 a0_3) := (blk_cell BK378.out 3).trans rfl
    have hcz8_4 : w4.cell? ⟨gb378, 4, none⟩ = some (.slice A0_4 l0_4.length c0_4) := (blk_cell BK378.out 4).trans rfl
    have hcz8_5 : w4.cell? ⟨gb378, 5, none⟩ = some (.slice A0_5 l0_5.length c0_5) := (blk_cell BK378.out 5).trans rfl
    have hcz8_6 : w4.cell? ⟨gb378, 6, none⟩ = some (.slice A0_6 l0_6.length c0_6) := (blk_cell BK378.out 6).trans rfl
    have hfz8_0 := blk_frozen BK378.out 0
    have hfz8_1 := blk_frozen BK378.out 1
    have hfz8_2 := blk_frozen BK378.out 2
    have hfz8_3 := blk_frozen BK378.out 3
    have hfz8_4 := blk_frozen BK378.out 4
    have hfz8_5 := blk_frozen BK378.out 5
    have hfz8_6 := blk_frozen BK378.out 6
    go_wp2_with (first | ((with_reducible refine gate_callee (f := 39) rfl ?_); refine goesL_ (some 10) rfl rfl Try.func39 (by kernel_rfl) rfl #[.agg #[.int .i64 a0_0, .int .i64 a0_1, .int .i64 a0_2, .int .i64 a0_3, .slice A0_4 l0_4.length c0_4, .slice A0_5 l0_5.length c0_5, .slice A0_6 l0_6.length c0_6]] rfl Z12x2 ?_; (with_reducible refine (spec_SketchOk.calls k a0_0 a0_1 a0_2 a0_3 _ _ l0_4 _ _ l0_5 _ _ l0_6 true _ ?side1 ?side2 ?side3 ?side4 ?side5 ?side6 A5.out).mono ?_); (case side1 => exact Z12x3); (case side2 => exact HC0_4.out); (case side3 => exact Z12x4); (case side4 => exact HC0_5.out); (case side5 => exact Z12x5); (case side6 => exact HC0_6.out); rintro e w9 ⟨rfl, hb⟩; refine ⟨_, rfl, ?_⟩; have n0_ := Aside0.mk (blk_below (g := gb378) (o := .cells #[.int .i64 a0_0, .int .i64 a0_1, .int .i64 a0_2, .int .i64 a0_3, .slice A0_4 l0_4.length c0_4, .slice A0_5 l0_5.length c0_5, .slice A0_6 l0_6.length c0_6] 26 (0, 0)) Z12x1 hb); have n1_ := Aside0.mk (below_step Z12x0 hb); clear BK378; clear HB; have BK378 := n0_; have HB := n1_; clear n0_ n1_; (try clear hb); (try clear hb2); (try clear hk); (try clear hi); have hcz10_0 : w9.cell? ⟨gb378, 0, none⟩ = some (.int .i64 a0_0) := (blk_cell BK378.out 0).trans rfl; have hcz10_1 : w9.cell? ⟨gb378, 1, none⟩ = some (.int .i64 a0_1) := (blk_cell BK378.out 1).trans rfl; have hcz10_2 : w9.cell? ⟨gb378, 2, none⟩ = some (.int .i64 a0_2) := (blk_cell BK378.out 2).trans rfl; have hcz10_3 : w9.cell? ⟨gb378, 3, none⟩ = some (.int .i64 a0_3) := (blk_cell BK378.out 3).trans rfl; have hcz10_4 : w9.cell? ⟨gb378, 4, none⟩ = some (.slice A0_4 l0_4.length c0_4) := (blk_cell BK378.out 4).trans rfl; have hcz10_5 : w9.cell? ⟨gb378, 5, none⟩ = some (.slice A0_5 l0_5.length c0_5) := (blk_cell BK378.out 5).trans rfl; have hcz10_6 : w9.cell? ⟨gb378, 6, none⟩ = some (.slice A0_6 l0_6.length c0_6) := (blk_cell BK378.out 6).trans rfl; have hfz10_0 := blk_frozen BK378.out 0; have hfz10_1 := blk_frozen BK378.out 1; have hfz10_2 := blk_frozen BK378.out 2; have hfz10_3 := blk_frozen BK378.out 3; have hfz10_4 := blk_frozen BK378.out 4; have hfz10_5 := blk_frozen BK378.out 5; have hfz10_6 := blk_frozen BK378.out 6))
    (first | go_meet | (refine Met.intro ?_; go_step; (repeat apply Exists.intro); refine ⟨?rel, ?eqs⟩; case eqs => ((try rw [show (!true) = true from by assumption]); (try rw [show (!true) = false from by assumption]); (try rw [show (a0_0 == 0) = true from by assumption]); (try rw [show (a0_0 == 0) = false from by assumption]); (try rfl))))
    case rel => exact ⟨_, (true), Z12x6, H', ⟨by first | omega | exact Nat.le_refl _⟩, ⟨Z12x1⟩, ⟨Z12x0⟩⟩
   ·rw [if_neg c7] at H
    have c7b0 : (a0_0 == 0) = false := beq_eq_false_iff_ne.mpr c7
    have c7b1 : (a0_0 != 0) = true := bne_iff_ne.mpr c7
    (first | rw [c7b0] | (simp only [i64_w, i32_w]; rw [c7b0]) | rw [c7b1] | rw [c7b2] | rw [c7b3] | skip)
    replace H := Option.bind_eq_some_iff.mp H
    obtain ⟨t380, A110, H⟩ := H
    replace H : (spec_Quantile.j0 k a1 (!t380) a0_0 a0_1 a0_2 a0_3 l0_4 l0_5 l0_6) = some (r1, r2) := H
    have A11 := Aside0.mk A110
    clear A110
    have H' := Aside0.mk H
    clear H
    have hcz12_0 : w4.cell? ⟨gb378, 0, none⟩ = some (.int .i64 a0_0) := (blk_cell BK378.out 0).trans rfl
    have hcz12_1 : w4.cell? ⟨gb378, 1, none⟩ = some (.int .i64 a0_1) := (blk_cell BK378.out 1).trans rfl
    have hcz12_2 : w4.cell? ⟨gb378, 2, none⟩ = some (.int .i64 a0_2) := (blk_cell BK378.out 2).trans rfl
    have hcz12_3 : w4.cell? ⟨gb378, 3, none⟩ = some (.int .i64 a0_3) := (blk_cell BK378.out 3).trans rfl
    have hcz12_4 : w4.cell? ⟨gb378, 4, none⟩ = some (.slice A0_4 l0_4.length c0_4) := (blk_cell BK378.out 4).trans rfl
    have hcz12_5 : w4.cell? ⟨gb378, 5, none⟩ = some (.slice A0_5 l0_5.length c0_5) := (blk_cell BK378.out 5).trans rfl
    have hcz12_6 : w4.cell? ⟨gb378, 6, none⟩ = some (.slice A0_6 l0_6.length c0_6) := (blk_cell BK378.out 6).trans rfl
    have hfz12_0 := blk_frozen BK378.out 0
    have hfz12_1 := blk_frozen BK378.out 1
    have hfz12_2 := blk_frozen BK378.out 2
    have hfz12_3 := blk_frozen BK378.out 3
    have hfz12_4 := blk_frozen BK378.out 4
    have hfz12_5 := blk_frozen BK378.out 5
    have hfz12_6 := blk_frozen BK378.out 6
    go_wp2_with (first | ((with_reducible refine gate_callee (f := 39) rfl ?_); refine goesL_ (some 10) rfl rfl Try.func39 (by kernel_rfl) rfl #[.agg #[.int .i64 a0_0, .int .i64 a0_1, .int .i64 a0_2, .int .i64 a0_3, .slice A0_4 l0_4.length c0_4, .slice A0_5 l0_5.length c0_5, .slice A0_6 l0_6.length c0_6]] rfl Z12x2 ?_; (with_reducible refine (spec_SketchOk.calls k a0_0 a0_1 a0_2 a0_3 _ _ l0_4 _ _ l0_5 _ _ l0_6 true _ ?side1 ?side2 ?side3 ?side4 ?side5 ?side6 A5.out).mono ?_); (case side1 => exact Z12x3); (case side2 => exact HC0_4.out); (case side3 => exact Z12x4); (case side4 => exact HC0_5.out); (case side5 => exact Z12x5); (case side6 => exact HC0_6.out); rintro e w13 ⟨rfl, hb⟩; refine ⟨_, rfl, ?_⟩; have n0_ := Aside0.mk (blk_below (g := gb378) (o := .cells #[.int .i64 a0_0, .int .i64 a0_1, .int .i64 a0_2, .int .i64 a0_3, .slice A0_4 l0_4.length c0_4, .slice A0_5 l0_5.length c0_5, .slice A0_6 l0_6.length c0_6] 26 (0, 0)) Z12x1 hb); have n1_ := Aside0.mk (below_step Z12x0 hb); clear BK378; clear HB; have BK378 := n0_; have HB := n1_; clear n0_ n1_; (try clear hb); (try clear hb2); (try clear hk); (try clear hi); have hcz14_0 : w13.cell? ⟨gb378, 0, none⟩ = some (.int .i64 a0_0) := (blk_cell BK378.out 0).trans rfl; have hcz14_1 : w13.cell? ⟨gb378, 1, none⟩ = some (.int .i64 a0_1) := (blk_cell BK378.out 1).trans rfl; have hcz14_2 : w13.cell? ⟨gb378, 2, none⟩ = some (.int .i64 a0_2) := (blk_cell BK378.out 2).trans rfl; have hcz14_3 : w13.cell? ⟨gb378, 3, none⟩ = some (.int .i64 a0_3) := (blk_cell BK378.out 3).trans rfl; have hcz14_4 : w13.cell? ⟨gb378, 4, none⟩ = some (.slice A0_4 l0_4.length c0_4) := (blk_cell BK378.out 4).trans rfl; have hcz14_5 : w13.cell? ⟨gb378, 5, none⟩ = some (.slice A0_5 l0_5.length c0_5) := (blk_cell BK378.out 5).trans rfl; have hcz14_6 : w13.cell? ⟨gb378, 6, none⟩ = some (.slice A0_6 l0_6.length c0_6) := (blk_cell BK378.out 6).trans rfl; have hfz14_0 := blk_frozen BK378.out 0; have hfz14_1 := blk_frozen BK378.out 1; have hfz14_2 := blk_frozen BK378.out 2; have hfz14_3 := blk_frozen BK378.out 3; have hfz14_4 := blk_frozen BK378.out 4; have hfz14_5 := blk_frozen BK378.out 5; have hfz14_6 := blk_frozen BK378.out 6) | (go_at_call 63; (with_reducible refine (spec_l1In.calls a1 1 1000 t380 _ A11.out).mono ?_); rintro e w' ⟨rfl, ⟨nd, rfl⟩⟩))
    (first | go_meet | (refine Met.intro ?_; go_step; (repeat apply Exists.intro); refine ⟨?rel, ?eqs⟩; case eqs => ((try rw [show (!true) = true from by assumption]); (try rw [show (!true) = false from by assumption]); (try rw [show (a0_0 == 0) = true from by assumption]); (try rw [show (a0_0 == 0) = false from by assumption]); (try rw [show (!t380) = true from by assumption]); (try rw [show (!t380) = false from by assumption]); (try rfl))))
    case rel => exact ⟨_, (!t380), Z12x6, H', ⟨by first | omega | exact Nat.le_refl _⟩, ⟨Z12x1⟩, ⟨Z12x0⟩⟩
  ·replace c6 := Bool.eq_false_iff.mpr c6
   subst c6
   have H1 : (spec_Quantile.j0 k a1 true a0_0 a0_1 a0_2 a0_3 l0_4 l0_5 l0_6) = some (r1, r2) := by rw [if_neg (show ¬ (false = true) by decide)] at H; exact H
   clear H
   have H := H1
   clear H1
   have H' := Aside0.mk H
   clear H
   have hcz15_0 : w4.cell? ⟨gb378, 0, none⟩ = some (.int .i64 a0_0) := (blk_cell BK378.out 0).trans rfl
   have hcz15_1 : w4.cell? ⟨gb378, 1, none⟩ = some (.int .i64 a0_1) := (blk_cell BK378.out 1).trans rfl
   have hcz15_2 : w4.cell? ⟨gb378, 2, none⟩ = some (.int .i64 a0_2) := (blk_cell BK378.out 2).trans rfl
   have hcz15_3 : w4.cell? ⟨gb378, 3, none⟩ = some (.int .i64 a0_3) := (blk_cell BK378.out 3).trans rfl
   have hcz15_4 : w4.cell? ⟨gb378, 4, none⟩ = some (.slice A0_4 l0_4.length c0_4) := (blk_cell BK378.out 4).trans rfl
   have hcz15_5 : w4.cell? ⟨gb378, 5, none⟩ = some (.slice A0_5 l0_5.length c0_5) := (blk_cell BK378.out 5).trans rfl
   have hcz15_6 : w4.cell? ⟨gb378, 6, none⟩ = some (.slice A0_6 l0_6.length c0_6) := (blk_cell BK378.out 6).trans rfl
   have hfz15_0 := blk_frozen BK378.out 0
   have hfz15_1 := blk_frozen BK378.out 1
   have hfz15_2 := blk_frozen BK378.out 2
   have hfz15_3 := blk_frozen BK378.out 3
   have hfz15_4 := blk_frozen BK378.out 4
   have hfz15_5 := blk_frozen BK378.out 5
   have hfz15_6 := blk_frozen BK378.out 6
   go_wp2_with (first | ((with_reducible refine gate_callee (f := 39) rfl ?_); refine goesL_ (some 10) rfl rfl Try.func39 (by kernel_rfl) rfl #[.agg #[.int .i64 a0_0, .int .i64 a0_1, .int .i64 a0_2, .int .i64 a0_3, .slice A0_4 l0_4.length c0_4, .slice A0_5 l0_5.length c0_5, .slice A0_6 l0_6.length c0_6]] rfl Z12x2 ?_; (with_reducible refine (spec_SketchOk.calls k a0_0 a0_1 a0_2 a0_3 _ _ l0_4 _ _ l0_5 _ _ l0_6 false _ ?side1 ?side2 ?side3 ?side4 ?side5 ?side6 A5.out).mono ?_); (case side1 => exact Z12x3); (case side2 => exact HC0_4.out); (case side3 => exact Z12x4); (case side4 => exact HC0_5.out); (case side5 => exact Z12x5); (case side6 => exact HC0_6.out); rintro e w16 ⟨rfl, hb⟩; refine ⟨_, rfl, ?_⟩; have n0_ := Aside0.mk (blk_below (g := gb378) (o := .cells #[.int .i64 a0_0, .int .i64 a0_1, .int .i64 a0_2, .int .i64 a0_3, .slice A0_4 l0_4.length c0_4, .slice A0_5 l0_5.length c0_5, .slice A0_6 l0_6.length c0_6] 26 (0, 0)) Z12x1 hb); have n1_ := Aside0.mk (below_step Z12x0 hb); clear BK378; clear HB; have BK378 := n0_; have HB := n1_; clear n0_ n1_; (try clear hb); (try clear hb2); (try clear hk); (try clear hi)))
   (first | go_meet | (refine Met.intro ?_; go_step; (repeat apply Exists.intro); refine ⟨?rel, ?eqs⟩; case eqs => ((try rw [show (!false) = true from by assumption]); (try rw [show (!false) = false from by assumption]); (try rfl))))
   case rel => exact ⟨_, (true), Z12x6, H', ⟨by first | omega | exact Nat.le_refl _⟩, ⟨Z12x1⟩, ⟨Z12x0⟩⟩
 case rest =>
  clear HC3
  try clear p2
  try clear c3
  try clear c6
  try clear c7
  try clear c7b0
  try clear c7b1
  try clear c7b2
  try clear hcz10_0
  try clear hcz10_1
  try clear hcz10_2
  try clear hcz10_3
  try clear hcz10_4
  try clear hcz10_5
  try clear hcz10_6
  try clear hcz12_0
  try clear hcz12_1
  try clear hcz12_2
  try clear hcz12_3
  try clear hcz12_4
  try clear hcz12_5
  try clear hcz12_6
  try clear hcz14_0
  try clear hcz14_1
  try clear hcz14_2
  try clear hcz14_3
  try clear hcz14_4
  try clear hcz14_5
  try clear hcz14_6
  try clear hcz15_0
  try clear hcz15_1
  try clear hcz15_2
  try clear hcz15_3
  try clear hcz15_4
  try clear hcz15_5
  try clear hcz15_6
  try clear hcz8_0
  try clear hcz8_1
  try clear hcz8_2
  try clear hcz8_3
  try clear hcz8_4
  try clear hcz8_5
  try clear hcz8_6
  try clear hfz10_0
  try clear hfz10_1
  try clear hfz10_2
  try clear hfz10_3
  try clear hfz10_4
  try clear hfz10_5
  try clear hfz10_6
  try clear hfz12_0
  try clear hfz12_1
  try clear hfz12_2
  try clear hfz12_3
  try clear hfz12_4
  try clear hfz12_5
  try clear hfz12_6
  try clear hfz14_0
  try clear hfz14_1
  try clear hfz14_2
  try clear hfz14_3
  try clear hfz14_4
  try clear hfz14_5
  try clear hfz14_6
  try clear hfz15_0
  try clear hfz15_1
  try clear hfz15_2
  try clear hfz15_3
  try clear hfz15_4
  try clear hfz15_5
  try clear hfz15_6
  try clear hfz8_0
  try clear hfz8_1
  try clear hfz8_2
  try clear hfz8_3
  try clear hfz8_4
  try clear hfz8_5
  try clear hfz8_6
  obtain ⟨kq, x21_2, rfl, HA, HJ2, BK378, HB⟩ := hcut
  cases kq with
  | zero => exact absurd HA.out (by simp [spec_Quantile.j0])
  | succ kj2 =>
   have H := HA.out
   clear HA
   simp only [spec_Quantile.j0] at H
   by_cases c17 : x21_2 = true
   ·subst c17
    have H1 : (some (0, 0)) = some (r1, r2) := by rw [if_pos rfl] at H; exact H
    clear H
    have H := H1
    clear H1
    simp only [Option.some.injEq, Prod.mk.injEq] at H
    obtain ⟨rfl, rfl⟩ := H
    go_wp2
    go_ret2
    exact ⟨Z12x7, Z12x0⟩
   ·replace c17 := Bool.eq_false_iff.mpr c17
    subst c17
    have H1 : ((spec_l4Sum.f kj2 l0_4).bind fun t381 => (spec_Quantile.l0 kj2 a1 t381 0 0 a0_0 a0_1 a0_2 a0_3 l0_4 l0_5 l0_6)) = some (r1, r2) := by rw [if_neg (show ¬ (false = true) by decide)] at H; exact H
    clear H
    have H := H1
    clear H1
    replace H := Option.bind_eq_some_iff.mp H
    obtain ⟨t381, A180, H⟩ := H
    replace H : (spec_Quantile.l0 kj2 a1 t381 0 0 a0_0 a0_1 a0_2 a0_3 l0_4 l0_5 l0_6) = some (r1, r2) := H
    have A18 := Aside0.mk A180
    clear A180
    have H' := Aside0.mk H
    clear H
    have hcz19_0 : wc.cell? ⟨gb378, 0, none⟩ = some (.int .i64 a0_0) := (blk_cell BK378.out 0).trans rfl
    have hcz19_1 : wc.cell? ⟨gb378, 1, none⟩ = some (.int .i64 a0_1) := (blk_cell BK378.out 1).trans rfl
    have hcz19_2 : wc.cell? ⟨gb378, 2, none⟩ = some (.int .i64 a0_2) := (blk_cell BK378.out 2).trans rfl
    have hcz19_3 : wc.cell? ⟨gb378, 3, none⟩ = some (.int .i64 a0_3) := (blk_cell BK378.out 3).trans rfl
    have hcz19_4 : wc.cell? ⟨gb378, 4, none⟩ = some (.slice A0_4 l0_4.length c0_4) := (blk_cell BK378.out 4).trans rfl
    have hcz19_5 : wc.cell? ⟨gb378, 5, none⟩ = some (.slice A0_5 l0_5.length c0_5) := (blk_cell BK378.out 5).trans rfl
    have hcz19_6 : wc.cell? ⟨gb378, 6, none⟩ = some (.slice A0_6 l0_6.length c0_6) := (blk_cell BK378.out 6).trans rfl
    have hfz19_0 := blk_frozen BK378.out 0
    have hfz19_1 := blk_frozen BK378.out 1
    have hfz19_2 := blk_frozen BK378.out 2
    have hfz19_3 := blk_frozen BK378.out 3
    have hfz19_4 := blk_frozen BK378.out 4
    have hfz19_5 := blk_frozen BK378.out 5
    have hfz19_6 := blk_frozen BK378.out 6
    go_wp2_with (first | ((with_reducible refine gate_callee (f := 77) rfl ?_); refine goesL_ (some 24) rfl rfl Try.func77 (by kernel_rfl) rfl #[.slice A0_4 l0_4.length c0_4] rfl Z12x2 ?_; (with_reducible refine (spec_l4Sum.calls kj2 _ _ l0_4 t381 _ ?side1 ?side2 A18.out).mono ?_); (case side1 => exact Z12x3); (case side2 => exact HC0_4.out); rintro e w' ⟨rfl, ⟨nd, rfl⟩⟩; refine ⟨_, rfl, ?_⟩))
    go_loopg [7, 8] kj2 (fun kq v7 v8 w' => ∃ (x7_2 : Int) (x8_2 : Int), v7 = .int .i64 x7_2 ∧ v8 = .int .i64 x8_2 ∧ Aside0 (spec_Quantile.l0 kq a1 t381 x7_2 x8_2 a0_0 a0_1 a0_2 a0_3 l0_4 l0_5 l0_6 = some (r1, r2)) ∧ Aside0 (kq ≤ kj2) ∧ Aside0 (w'.heap[gb378]? = some (.cells #[.int .i64 a0_0, .int .i64 a0_1, .int .i64 a0_2, .int .i64 a0_3, (.slice A0_4 l0_4.length c0_4), (.slice A0_5 l0_5.length c0_5), (.slice A0_6 l0_6.length c0_6)] 26 (0, 0))) ∧ Aside0 (Below w.heap.size w w'))
    case atStart => exact ⟨(0), (0), Z12x6, Z12x6, H', ⟨Nat.le_refl _⟩, ⟨Z12x1⟩, ⟨Z12x0⟩⟩
    case round =>
     clear H'
     try clear c1
     try clear p2
     try clear c3
     try clear c6
     try clear c7
     try clear c7b0
     try clear c7b1
     try clear c7b2
     try clear c17
     try clear hcz10_0
     try clear hcz10_1
     try clear hcz10_2
     try clear hcz10_3
     try clear hcz10_4
     try clear hcz10_5
     try clear hcz10_6
     try clear hcz12_0
     try clear hcz12_1
     try clear hcz12_2
     try clear hcz12_3
     try clear hcz12_4
     try clear hcz12_5
     try clear hcz12_6
     try clear hcz14_0
     try clear hcz14_1
     try clear hcz14_2
     try clear hcz14_3
     try clear hcz14_4
     try clear hcz14_5
     try clear hcz14_6
     try clear hcz15_0
     try clear hcz15_1
     try clear hcz15_2
     try clear hcz15_3
     try clear hcz15_4
     try clear hcz15_5
     try clear hcz15_6
     try clear hcz19_0
     try clear hcz19_1
     try clear hcz19_2
     try clear hcz19_3
     try clear hcz19_4
     try clear hcz19_5
     try clear hcz19_6
     try clear hcz8_0
     try clear hcz8_1
     try clear hcz8_2
     try clear hcz8_3
     try clear hcz8_4
     try clear hcz8_5
     try clear hcz8_6
     try clear hfz10_0
     try clear hfz10_1
     try clear hfz10_2
     try clear hfz10_3
     try clear hfz10_4
     try clear hfz10_5
     try clear hfz10_6
     try clear hfz12_0
     try clear hfz12_1
     try clear hfz12_2
     try clear hfz12_3
     try clear hfz12_4
     try clear hfz12_5
     try clear hfz12_6
     try clear hfz14_0
     try clear hfz14_1
     try clear hfz14_2
     try clear hfz14_3
     try clear hfz14_4
     try clear hfz14_5
     try clear hfz14_6
     try clear hfz15_0
     try clear hfz15_1
     try clear hfz15_2
     try clear hfz15_3
     try clear hfz15_4
     try clear hfz15_5
     try clear hfz15_6
     try clear hfz19_0
     try clear hfz19_1
     try clear hfz19_2
     try clear hfz19_3
     try clear hfz19_4
     try clear hfz19_5
     try clear hfz19_6
     try clear hfz8_0
     try clear hfz8_1
     try clear hfz8_2
     try clear hfz8_3
     try clear hfz8_4
     try clear hfz8_5
     try clear hfz8_6
     try clear p2
     (try clear BK378)
     obtain ⟨x7_2, x8_2, rfl, rfl, HA, HK2, BK378, HB⟩ := hrel
     cases gk with
     | zero => exact absurd HA.out (by simp [spec_Quantile.l0])
     | succ k2 =>
      have H := HA.out
      clear HA
      simp only [spec_Quantile.l0] at H
      by_cases c20 : x8_2 < 8
      ·rw [if_pos c20] at H
       have c20b0 : decide (x8_2 < 8) = true := decide_eq_true c20
       clear c20
       by_cases c21 : 0 ≤ x8_2
       ·rw [if_pos c21] at H
        have c21b0 : decide (0 ≤ x8_2) = true := decide_eq_true c21
        clear c21
        by_cases c22 : x8_2 < (l0_4.length : Int)
        ·rw [if_pos c22] at H
         have c22b0 : decide (x8_2 < (l0_4.length : Int)) = true := decide_eq_true c22
         clear c22
         have HC23 := Aside0.mk H
         clear H
         have hcz24_0 : wr.cell? ⟨gb378, 0, none⟩ = some (.int .i64 a0_0) := (blk_cell BK378.out 0).trans rfl
         have hcz24_1 : wr.cell? ⟨gb378, 1, none⟩ = some (.int .i64 a0_1) := (blk_cell BK378.out 1).trans rfl
         have hcz24_2 : wr.cell? ⟨gb378, 2, none⟩ = some (.int .i64 a0_2) := (blk_cell BK378.out 2).trans rfl
         have hcz24_3 : wr.cell? ⟨gb378, 3, none⟩ = some (.int .i64 a0_3) := (blk_cell BK378.out 3).trans rfl
         have hcz24_4 : wr.cell? ⟨gb378, 4, none⟩ = some (.slice A0_4 l0_4.length c0_4) := (blk_cell BK378.out 4).trans rfl
         have hcz24_5 : wr.cell? ⟨gb378, 5, none⟩ = some (.slice A0_5 l0_5.length c0_5) := (blk_cell BK378.out 5).trans rfl
         have hcz24_6 : wr.cell? ⟨gb378, 6, none⟩ = some (.slice A0_6 l0_6.length c0_6) := (blk_cell BK378.out 6).trans rfl
         have hfz24_0 := blk_frozen BK378.out 0
         have hfz24_1 := blk_frozen BK378.out 1
         have hfz24_2 := blk_frozen BK378.out 2
         have hfz24_3 := blk_frozen BK378.out 3
         have hfz24_4 := blk_frozen BK378.out 4
         have hfz24_5 := blk_frozen BK378.out 5
         have hfz24_6 := blk_frozen BK378.out 6
         have p382 : 0 ≤ (x8_2 : Int) := of_decide_eq_true Z12x9
         have q382 : x8_2 < (l0_4.length : Int) := of_decide_eq_true Z12x9
         obtain ⟨ad382, e382, hx382_0⟩ := Kd.at_int HR0_4.out x8_2 p382 q382
         cases e382
         replace hx382_0 := (HB.out.cell (World.block_lt_of_cell? w _ hx382_0)).trans hx382_0
         replace p382 := eq_true p382
         replace q382 := eq_true q382
         go_upto_region 9 with (fail)
         go_cut [49] (fun v49 wc => ∃ (kq : Nat) (x49_22 : Bool), v49 = .bool x49_22 ∧ Aside0 (spec_Quantile.j2 kq a1 t381 (wrap64 (x7_2 + (rd l0_4 x8_2))) x8_2 x49_22 a0_0 a0_1 a0_2 a0_3 l0_4 l0_5 l0_6 = some (r1, r2)) ∧ Aside0 (kq ≤ k2) ∧ Aside0 (wc.heap[gb378]? = some (.cells #[.int .i64 a0_0, .int .i64 a0_1, .int .i64 a0_2, .int .i64 a0_3, (.slice (some ad382) l0_4.length c0_4), (.slice A0_5 l0_5.length c0_5), (.slice A0_6 l0_6.length c0_6)] 26 (0, 0))) ∧ Aside0 (Below w.heap.size w wc))
         case first =>
          have H := HC23.out
          clear HC23
          by_cases c25 : (rd l0_4 x8_2) > 0
          ·rw [if_pos c25] at H
           have c25b0 : decide (0 < (rd l0_4 x8_2)) = true := decide_eq_true c25
           clear c25
           (first | rw [c25b0] | (simp only [i64_w, i32_w]; rw [c25b0]) | rw [c25b1] | rw [c25b2] | rw [c25b3] | skip)
           have H' := Aside0.mk H
           clear H
           have hcz26_0 : wr.cell? ⟨gb378, 0, none⟩ = some (.int .i64 a0_0) := (blk_cell BK378.out 0).trans rfl
           have hcz26_1 : wr.cell? ⟨gb378, 1, none⟩ = some (.int .i64 a0_1) := (blk_cell BK378.out 1).trans rfl
           have hcz26_2 : wr.cell? ⟨gb378, 2, none⟩ = some (.int .i64 a0_2) := (blk_cell BK378.out 2).trans rfl
           have hcz26_3 : wr.cell? ⟨gb378, 3, none⟩ = some (.int .i64 a0_3) := (blk_cell BK378.out 3).trans rfl
           have hcz26_4 : wr.cell? ⟨gb378, 4, none⟩ = some (.slice (some ad382) l0_4.length c0_4) := (blk_cell BK378.out 4).trans rfl
           have hcz26_5 : wr.cell? ⟨gb378, 5, none⟩ = some (.slice A0_5 l0_5.length c0_5) := (blk_cell BK378.out 5).trans rfl
           have hcz26_6 : wr.cell? ⟨gb378, 6, none⟩ = some (.slice A0_6 l0_6.length c0_6) := (blk_cell BK378.out 6).trans rfl
           have hfz26_0 := blk_frozen BK378.out 0
           have hfz26_1 := blk_frozen BK378.out 1
           have hfz26_2 := blk_frozen BK378.out 2
           have hfz26_3 := blk_frozen BK378.out 3
           have hfz26_4 := blk_frozen BK378.out 4
           have hfz26_5 := blk_frozen BK378.out 5
           have hfz26_6 := blk_frozen BK378.out 6
           have p383 : 0 ≤ (x8_2 : Int) := of_decide_eq_true Z12x9
           have q383 : x8_2 < (l0_4.length : Int) := of_decide_eq_true Z12x9
           obtain ⟨ad383, e383, hx383_0⟩ := Kd.at_int HR0_4.out x8_2 p383 q383
           obtain rfl : ad382 = ad383 := (by injection e383)
           replace hx383_0 := (HB.out.cell (World.block_lt_of_cell? w _ hx383_0)).trans hx383_0
           replace p383 := eq_true p383
           replace q383 := eq_true q383
           go_wp2
           (first | go_meet | (refine Met.intro ?_; go_step; (repeat apply Exists.intro); refine ⟨?rel, ?eqs⟩; case eqs => ((try rw [show (decide (x8_2 < 8)) = true from by assumption]); (try rw [show (decide (x8_2 < 8)) = false from by assumption]); (try rw [show (decide ((rd l0_4 x8_2) > 0)) = true from by assumption]); (try rw [show (decide ((rd l0_4 x8_2) > 0)) = false from by assumption]); (try rw [show (decide ((wrap64 ((wrap64 (x7_2 + (rd l0_4 x8_2))) * 1000)) ≥ (wrap64 (a1 * t381)))) = true from by assumption]); (try rw [show (decide ((wrap64 ((wrap64 (x7_2 + (rd l0_4 x8_2))) * 1000)) ≥ (wrap64 (a1 * t381)))) = false from by assumption]); (try rfl))))
           case rel => exact ⟨_, (decide ((wrap64 ((wrap64 (x7_2 + (rd l0_4 x8_2))) * 1000)) ≥ (wrap64 (a1 * t381)))), Z12x6, H', ⟨by have := HJ2.out; have := HK2.out; first | omega | exact Nat.le_refl _⟩, ⟨Z12x1⟩, ⟨Z12x0⟩⟩
          ·rw [if_neg c25] at H
           have c25b0 : decide (0 < (rd l0_4 x8_2)) = false := decide_eq_false c25
           clear c25
           (first | rw [c25b0] | (simp only [i64_w, i32_w]; rw [c25b0]) | rw [c25b1] | rw [c25b2] | rw [c25b3] | skip)
           have H' := Aside0.mk H
           clear H
           have hcz27_0 : wr.cell? ⟨gb378, 0, none⟩ = some (.int .i64 a0_0) := (blk_cell BK378.out 0).trans rfl
           have hcz27_1 : wr.cell? ⟨gb378, 1, none⟩ = some (.int .i64 a0_1) := (blk_cell BK378.out 1).trans rfl
           have hcz27_2 : wr.cell? ⟨gb378, 2, none⟩ = some (.int .i64 a0_2) := (blk_cell BK378.out 2).trans rfl
           have hcz27_3 : wr.cell? ⟨gb378, 3, none⟩ = some (.int .i64 a0_3) := (blk_cell BK378.out 3).trans rfl
           have hcz27_4 : wr.cell? ⟨gb378, 4, none⟩ = some (.slice (some ad382) l0_4.length c0_4) := (blk_cell BK378.out 4).trans rfl
           have hcz27_5 : wr.cell? ⟨gb378, 5, none⟩ = some (.slice A0_5 l0_5.length c0_5) := (blk_cell BK378.out 5).trans rfl
           have hcz27_6 : wr.cell? ⟨gb378, 6, none⟩ = some (.slice A0_6 l0_6.length c0_6) := (blk_cell BK378.out 6).trans rfl
           have hfz27_0 := blk_frozen BK378.out 0
           have hfz27_1 := blk_frozen BK378.out 1
           have hfz27_2 := blk_frozen BK378.out 2
           have hfz27_3 := blk_frozen BK378.out 3
           have hfz27_4 := blk_frozen BK378.out 4
           have hfz27_5 := blk_frozen BK378.out 5
           have hfz27_6 := blk_frozen BK378.out 6
           have p383 : 0 ≤ (x8_2 : Int) := of_decide_eq_true Z12x9
           have q383 : x8_2 < (l0_4.length : Int) := of_decide_eq_true Z12x9
           obtain ⟨ad383, e383, hx383_0⟩ := Kd.at_int HR0_4.out x8_2 p383 q383
           obtain rfl : ad382 = ad383 := (by injection e383)
           replace hx383_0 := (HB.out.cell (World.block_lt_of_cell? w _ hx383_0)).trans hx383_0
           replace p383 := eq_true p383
           replace q383 := eq_true q383
           go_wp2
           (first | go_meet | (refine Met.intro ?_; go_step; (repeat apply Exists.intro); refine ⟨?rel, ?eqs⟩; case eqs => ((try rw [show (decide (x8_2 < 8)) = true from by assumption]); (try rw [show (decide (x8_2 < 8)) = false from by assumption]); (try rw [show (decide ((rd l0_4 x8_2) > 0)) = true from by assumption]); (try rw [show (decide ((rd l0_4 x8_2) > 0)) = false from by assumption]); (try rfl))))
           case rel => exact ⟨_, (false), Z12x6, H', ⟨by have := HJ2.out; have := HK2.out; first | omega | exact Nat.le_refl _⟩, ⟨Z12x1⟩, ⟨Z12x0⟩⟩
         case rest =>
          clear HC23
          try clear c1
          try clear c2
          try clear p2
          try clear c3
          try clear p3
          try clear q3
          try clear hx3
          try clear c6
          try clear p6
          try clear c7
          try clear c7b0
          try clear c7b1
          try clear c7b2
          try clear c17
          try clear c20
          try clear c20b0
          try clear c21
          try clear c21b0
          try clear c22
          try clear c22b0
          try clear c25
          try clear c25b0
          try clear c25b1
          try clear c25b2
          try clear hcz10_0
          try clear hcz10_1
          try clear hcz10_2
          try clear hcz10_3
          try clear hcz10_4
          try clear hcz10_5
          try clear hcz10_6
          try clear hcz12_0
          try clear hcz12_1
          try clear hcz12_2
          try clear hcz12_3
          try clear hcz12_4
          try clear hcz12_5
          try clear hcz12_6
          try clear hcz14_0
          try clear hcz14_1
          try clear hcz14_2
          try clear hcz14_3
          try clear hcz14_4
          try clear hcz14_5
          try clear hcz14_6
          try clear hcz15_0
          try clear hcz15_1
          try clear hcz15_2
          try clear hcz15_3
          try clear hcz15_4
          try clear hcz15_5
          try clear hcz15_6
          try clear hcz19_0
          try clear hcz19_1
          try clear hcz19_2
          try clear hcz19_3
          try clear hcz19_4
          try clear hcz19_5
          try clear hcz19_6
          try clear hcz24_0
          try clear hcz24_1
          try clear hcz24_2
          try clear hcz24_3
          try clear hcz24_4
          try clear hcz24_5
          try clear hcz24_6
          try clear hcz26_0
          try clear hcz26_1
          try clear hcz26_2
          try clear hcz26_3
          try clear hcz26_4
          try clear hcz26_5
          try clear hcz26_6
          try clear hcz27_0
          try clear hcz27_1
          try clear hcz27_2
          try clear hcz27_3
          try clear hcz27_4
          try clear hcz27_5
          try clear hcz27_6
          try clear hcz8_0
          try clear hcz8_1
          try clear hcz8_2
          try clear hcz8_3
          try clear hcz8_4
          try clear hcz8_5
          try clear hcz8_6
          try clear hfz10_0
          try clear hfz10_1
          try clear hfz10_2
          try clear hfz10_3
          try clear hfz10_4
          try clear hfz10_5
          try clear hfz10_6
          try clear hfz12_0
          try clear hfz12_1
          try clear hfz12_2
          try clear hfz12_3
          try clear hfz12_4
          try clear hfz12_5
          try clear hfz12_6
          try clear hfz14_0
          try clear hfz14_1
          try clear hfz14_2
          try clear hfz14_3
          try clear hfz14_4
          try clear hfz14_5
          try clear hfz14_6
          try clear hfz15_0
          try clear hfz15_1
          try clear hfz15_2
          try clear hfz15_3
          try clear hfz15_4
          try clear hfz15_5
          try clear hfz15_6
          try clear hfz19_0
          try clear hfz19_1
          try clear hfz19_2
          try clear hfz19_3
          try clear hfz19_4
          try clear hfz19_5
          try clear hfz19_6
          try clear hfz24_0
          try clear hfz24_1
          try clear hfz24_2
          try clear hfz24_3
          try clear hfz24_4
          try clear hfz24_5
          try clear hfz24_6
          try clear hfz26_0
          try clear hfz26_1
          try clear hfz26_2
          try clear hfz26_3
          try clear hfz26_4
          try clear hfz26_5
          try clear hfz26_6
          try clear hfz27_0
          try clear hfz27_1
          try clear hfz27_2
          try clear hfz27_3
          try clear hfz27_4
          try clear hfz27_5
          try clear hfz27_6
          try clear hfz8_0
          try clear hfz8_1
          try clear hfz8_2
          try clear hfz8_3
          try clear hfz8_4
          try clear hfz8_5
          try clear hfz8_6
          try clear hx382_0
          try clear hx383_0
          try clear p2
          try clear p382
          try clear p383
          try clear q382
          try clear q383
          obtain ⟨kq, x49_22, rfl, HA, HJ22, BK378, HB⟩ := hcut
          cases kq with
          | zero => exact absurd HA.out (by simp [spec_Quantile.j2])
          | succ kj22 =>
           have H := HA.out
           clear HA
           simp only [spec_Quantile.j2] at H
           by_cases c28 : x49_22 = true
           ·subst c28
            have H1 : (if x8_2 = 7 then ((spec_Low.f x8_2).bind fun t384 => (some (t384, 1000000))) else ((spec_Low.f x8_2).bind fun t385 => ((spec_Low.f (wrap64 (x8_2 + 1))).bind fun t386 => (some (t385, wrap64 (t386 - 1)))))) = some (r1, r2) := by rw [if_pos rfl] at H; exact H
            clear H
            have H := H1
            clear H1
            by_cases c29 : x8_2 = 7
            ·rw [if_pos c29] at H
             have c29b0 : (x8_2 == 7) = true := beq_iff_eq.mpr c29
             have c29b1 : (x8_2 != 7) = false := bne_eq_false_iff_eq.mpr c29
             clear c29
             replace H := Option.bind_eq_some_iff.mp H
             obtain ⟨t384, A300, H⟩ := H
             replace H : (some (t384, 1000000)) = some (r1, r2) := H
             have A30 := Aside0.mk A300
             clear A300
             simp only [Option.some.injEq, Prod.mk.injEq] at H
             obtain ⟨rfl, rfl⟩ := H
             go_wp2_with (first | ((with_reducible refine gate_callee (f := 78) rfl ?_); refine goesL_ (some 53) rfl rfl Try.func78 (by kernel_rfl) rfl #[.int .i64 x8_2] rfl Z12x2 ?_; (with_reducible refine (spec_Low.calls x8_2 t384 _ A30.out).mono ?_); rintro e w31 ⟨rfl, hb⟩; refine ⟨_, rfl, ?_⟩; have n0_ := Aside0.mk (blk_below (g := gb378) (o := .cells #[.int .i64 a0_0, .int .i64 a0_1, .int .i64 a0_2, .int .i64 a0_3, .slice (some ad382) l0_4.length c0_4, .slice A0_5 l0_5.length c0_5, .slice A0_6 l0_6.length c0_6] 26 (0, 0)) Z12x1 hb); have n1_ := Aside0.mk (below_step Z12x0 hb); clear BK378; clear HB; have BK378 := n0_; have HB := n1_; clear n0_ n1_; (try clear hb); (try clear hb2); (try clear hk); (try clear hi)))
             go_ret2
             exact ⟨Z12x7, Z12x0⟩
            ·rw [if_neg c29] at H
             have c29b0 : (x8_2 == 7) = false := beq_eq_false_iff_ne.mpr c29
             have c29b1 : (x8_2 != 7) = true := bne_iff_ne.mpr c29
             replace H := Option.bind_eq_some_iff.mp H
             obtain ⟨t385, A320, H⟩ := H
             replace H : ((spec_Low.f (wrap64 (x8_2 + 1))).bind fun t386 => (some (t385, wrap64 (t386 - 1)))) = some (r1, r2) := H
             have A32 := Aside0.mk A320
             clear A320
             replace H := Option.bind_eq_some_iff.mp H
             obtain ⟨t386, A330, H⟩ := H
             replace H : (some (t385, wrap64 (t386 - 1))) = some (r1, r2) := H
             have A33 := Aside0.mk A330
             clear A330
             simp only [Option.some.injEq, Prod.mk.injEq] at H
             obtain ⟨rfl, rfl⟩ := H
             go_wp2_with (first | ((with_reducible refine gate_callee (f := 78) rfl ?_); refine goesL_ (some 55) rfl rfl Try.func78 (by kernel_rfl) rfl #[.int .i64 x8_2] rfl Z12x2 ?_; (with_reducible refine (spec_Low.calls x8_2 t385 _ A32.out).mono ?_); rintro e w34 ⟨rfl, hb⟩; refine ⟨_, rfl, ?_⟩; have n0_ := Aside0.mk (blk_below (g := gb378) (o := .cells #[.int .i64 a0_0, .int .i64 a0_1, .int .i64 a0_2, .int .i64 a0_3, .slice (some ad382) l0_4.length c0_4, .slice A0_5 l0_5.length c0_5, .slice A0_6 l0_6.length c0_6] 26 (0, 0)) Z12x1 hb); have n1_ := Aside0.mk (below_step Z12x0 hb); clear BK378; clear HB; have BK378 := n0_; have HB := n1_; clear n0_ n1_; (try clear hb); (try clear hb2); (try clear hk); (try clear hi)) | ((with_reducible refine gate_callee (f := 78) rfl ?_); refine goesL_ (some 58) rfl rfl Try.func78 (by kernel_rfl) rfl #[.int .i64 (wrap64 (x8_2 + 1))] rfl Z12x2 ?_; (with_reducible refine (spec_Low.calls (wrap64 (x8_2 + 1)) t386 _ A33.out).mono ?_); rintro e w35 ⟨rfl, hb⟩; refine ⟨_, rfl, ?_⟩; have n0_ := Aside0.mk (blk_below (g := gb378) (o := .cells #[.int .i64 a0_0, .int .i64 a0_1, .int .i64 a0_2, .int .i64 a0_3, .slice (some ad382) l0_4.length c0_4, .slice A0_5 l0_5.length c0_5, .slice A0_6 l0_6.length c0_6] 26 (0, 0)) Z12x1 hb); have n1_ := Aside0.mk (below_step Z12x0 hb); clear BK378; clear HB; have BK378 := n0_; have HB := n1_; clear n0_ n1_; (try clear hb); (try clear hb2); (try clear hk); (try clear hi)))
             go_ret2
             exact ⟨Z12x7, Z12x0⟩
           ·replace c28 := Bool.eq_false_iff.mpr c28
            subst c28
            have H1 : (spec_Quantile.l0 kj22 a1 t381 (wrap64 (x7_2 + (rd l0_4 x8_2))) (wrap64 (x8_2 + 1)) a0_0 a0_1 a0_2 a0_3 l0_4 l0_5 l0_6) = some (r1, r2) := by rw [if_neg (show ¬ (false = true) by decide)] at H; exact H
            clear H
            have H := H1
            clear H1
            have H' := Aside0.mk H
            clear H
            go_wp2
            go_roundg kj22
            case measure => have := HJ2.out; have := HK2.out; have := HJ22.out; omega
            case rel => exact ⟨((wrap64 (x7_2 + (rd l0_4 x8_2)))), (wrap64 (x8_2 + 1)), Z12x6, Z12x6, H', ⟨by have := HJ2.out; have := HK2.out; have := HJ22.out; omega⟩, ⟨Z12x1⟩, ⟨Z12x0⟩⟩
        ·rw [if_neg c22] at H
         exact absurd H (by simp)
       ·rw [if_neg c21] at H
        exact absurd H (by simp)
      ·rw [if_neg c20] at H
       have c20b0 : decide (x8_2 < 8) = false := decide_eq_false c20
       clear c20
       simp only [Option.some.injEq, Prod.mk.injEq] at H
       obtain ⟨rfl, rfl⟩ := H
       go_wp2
       go_ret2
       exact ⟨Z12x7, Z12x0⟩

end Go.Proofs.Ytfknjoebomicnaa.PFnQuantiles
