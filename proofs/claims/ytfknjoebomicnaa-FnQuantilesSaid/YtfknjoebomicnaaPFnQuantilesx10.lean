-- Written by this session's changed copy of the kit's printer (wip/patch_print.py): not the kit's own print.
import Derived.Test.YtfknjoebomicnaaPFnQuantilesx0
import Derived.Test.YtfknjoebomicnaaPFnQuantilesx7
import Derived.Test.YtfknjoebomicnaaPFnQuantilesx8
import Derived.Test.YtfknjoebomicnaaPFnQuantilesx9
namespace Go.Proofs.Ytfknjoebomicnaa.PFnQuantiles
open Go.RowKit Go.Proofs.YtfknjoebomicnaaW.PrintWords Go.Proofs.YtfknjoebomicnaaW.PrintLast Go.Proofs.YtfknjoebomicnaaW.PrintMore
attribute [local go_sem] max2_int min2_int max_two min_two max_three min_three max_four min_four   -- for this text's walks alone
set_option linter.unusedVariables false
set_option linter.unusedSimpArgs false
theorem Z10x0 {p : Prop} (h : p := by repeat (first | (with_reducible first | exact HB.out | apply below_alloc | apply pw_below_drewN | apply below_drew1 | refine below_set ?_ GE364.out) | exact HB.out)) : p := h
theorem Z10x1 {p : Prop} (h : p := by (with_reducible repeat (first | refine blk_drewN ?_ _ | refine blk_drew ?_ | refine blk_alloc ?_ _)); exact BK364.out) : p := h
theorem Z10x2 {p : Prop} (h : p := by (try simp only [List.map_toArray, List.map_cons, List.map_nil]); first | done | rfl | (simp only [List.length_drop, List.length_take]; rfl)) : p := h
theorem Z10x3 {p : Prop} (h : p := by first | rfl | (simp; done) | (simp [*]; done)) : p := h
theorem Z10x4 {p : Prop} (h : p := by repeat (first | exact (Kd.C_below HR0_4.out HB.out) | (with_reducible refine Kd.C_alloc ?_ _) | (with_reducible refine Kd.C_drewN ?_ _) | (with_reducible refine Kd.C_drew ?_))) : p := h
theorem Z10x5 {p : Prop} (h : p := by repeat (first | exact (Kd.C_below HR0_5.out HB.out) | (with_reducible refine Kd.C_alloc ?_ _) | (with_reducible refine Kd.C_drewN ?_ _) | (with_reducible refine Kd.C_drew ?_))) : p := h
theorem Z10x6 {p : Prop} (h : p := by repeat (first | exact (Kd.C_below HR0_6.out HB.out) | (with_reducible refine Kd.C_alloc ?_ _) | (with_reducible refine Kd.C_drewN ?_ _) | (with_reducible refine Kd.C_drew ?_))) : p := h
theorem Z10x7 {p : Prop} (h : p := by first | rfl | (simp [errW_none, errW_some] <;> rfl) | (simp [*, errW_none, errW_some] <;> rfl)) : p := h
theorem Z10x8 {p : Prop} (h : p := by repeat (first | (with_reducible first | exact HB.out | apply below_alloc | apply pw_below_drewN | apply below_drew1) | exact HB.out)) : p := h

mutual
def impl_Quantile.j0 : Nat → Int → Bool → Int → Int → Int → Int → List Int → List Int → List (List Int) → Option (Int × Int)
 | 0, _, _, _, _, _, _, _, _, _ => none
 | k + 1, x1, x24, x365000, x365001, x365002, x365003, x365004, x365005, x365006 => if x24 = true then (some (0, 0)) else (impl_Quantile.l0 k x1 0 x365004 (x365004.length : Int) 0 x365000 x365001 x365002 x365003 x365004 x365005 x365006)
def impl_Quantile.l0 : Nat → Int → Int → List Int → Int → Int → Int → Int → Int → Int → List Int → List Int → List (List Int) → Option (Int × Int)
 | 0, _, _, _, _, _, _, _, _, _, _, _, _ => none
 | k + 1, x1, x6, x26, x27, x28, x365000, x365001, x365002, x365003, x365004, x365005, x365006 => if x28 < x27 then (if 0 ≤ x28 then (if x28 < (x26.length : Int) then (impl_Quantile.l0 k x1 (wrap64 (x6 + (rd x26 x28))) x26 x27 (wrap64 (x28 + 1)) x365000 x365001 x365002 x365003 x365004 x365005 x365006) else (none)) else (none)) else (impl_Quantile.l1 k x1 x6 0 x365004 (x365004.length : Int) 0)
def impl_Quantile.l1 : Nat → Int → Int → Int → List Int → Int → Int → Option (Int × Int)
 | 0, _, _, _, _, _, _ => none
 | k + 1, x1, x6, x9, x37, x38, x39 => if x39 < x38 then (if 0 ≤ x39 then (if x39 < (x37.length : Int) then (if (rd x37 x39) = 0 then (impl_Quantile.j3 k x1 x6 (wrap64 (x9 + (rd x37 x39))) x39 x37 x38 x39 true) else (impl_Quantile.j3 k x1 x6 (wrap64 (x9 + (rd x37 x39))) x39 x37 x38 x39 (decide ((wrap64 ((wrap64 (x9 + (rd x37 x39))) * 1000)) < (wrap64 (x1 * x6)))))) else (none)) else (none)) else (some (0, 0))
def impl_Quantile.j3 : Nat → Int → Int → Int → Int → List Int → Int → Int → Bool → Option (Int × Int)
 | 0, _, _, _, _, _, _, _, _ => none
 | k + 1, x1, x6, x9, x10, x37, x38, x39, x56 => if x56 = true then (impl_Quantile.l1 k x1 x6 x9 x37 x38 (wrap64 (x39 + 1))) else (if x10 = 7 then ((impl_Low.f x10).bind fun t369 => (some (t369, 1000000))) else ((impl_Low.f x10).bind fun t370 => ((impl_Low.f (wrap64 (x10 + 1))).bind fun t371 => (some (t370, wrap64 (t371 - 1))))))
end
def impl_Quantile.f (k : Nat) (a0_0 : Int) (a0_1 : Int) (a0_2 : Int) (a0_3 : Int) (l0_4 : List Int) (l0_5 : List Int) (l0_6 : List (List Int)) (a1 : Int) : Option (Int × Int) := (impl_SketchOk.f k a0_0 a0_1 a0_2 a0_3 l0_4 l0_5 l0_6).bind fun t365 => (if t365 = true then (if a0_0 = 0 then (impl_Quantile.j0 k a1 true a0_0 a0_1 a0_2 a0_3 l0_4 l0_5 l0_6) else ((impl_within.f a1 1 1000).bind fun t366 => (impl_Quantile.j0 k a1 (!t366) a0_0 a0_1 a0_2 a0_3 l0_4 l0_5 l0_6))) else (impl_Quantile.j0 k a1 true a0_0 a0_1 a0_2 a0_3 l0_4 l0_5 l0_6))
theorem impl_Quantile.mono_l : ∀ k, (∀ y0 y1 y2 y3 y4 y5 y6 y7 y8, LeO (impl_Quantile.j0 k y0 y1 y2 y3 y4 y5 y6 y7 y8) (impl_Quantile.j0 (k + 1) y0 y1 y2 y3 y4 y5 y6 y7 y8)) ∧ (∀ y0 y1 y2 y3 y4 y5 y6 y7 y8 y9 y10 y11, LeO (impl_Quantile.l0 k y0 y1 y2 y3 y4 y5 y6 y7 y8 y9 y10 y11) (impl_Quantile.l0 (k + 1) y0 y1 y2 y3 y4 y5 y6 y7 y8 y9 y10 y11)) ∧ (∀ y0 y1 y2 y3 y4 y5, LeO (impl_Quantile.l1 k y0 y1 y2 y3 y4 y5) (impl_Quantile.l1 (k + 1) y0 y1 y2 y3 y4 y5)) ∧ (∀ y0 y1 y2 y3 y4 y5 y6 y7, LeO (impl_Quantile.j3 k y0 y1 y2 y3 y4 y5 y6 y7) (impl_Quantile.j3 (k + 1) y0 y1 y2 y3 y4 y5 y6 y7))
 | 0 => ⟨fun _ _ _ _ _ _ _ _ _ r h => by simp [impl_Quantile.j0] at h, fun _ _ _ _ _ _ _ _ _ _ _ _ r h => by simp [impl_Quantile.l0] at h, fun _ _ _ _ _ _ r h => by simp [impl_Quantile.l1] at h, fun _ _ _ _ _ _ _ _ r h => by simp [impl_Quantile.j3] at h⟩
 | k + 1 => by
  obtain ⟨ih0, ih1, ih2, ih3⟩ := impl_Quantile.mono_l k
  refine ⟨?_, ?_, ?_, ?_⟩
  ·intro y0 y1 y2 y3 y4 y5 y6 y7 y8
   unfold impl_Quantile.j0
   repeat' first
   | (with_reducible exact ih0 _ _ _ _ _ _ _ _ _)
   | (with_reducible exact ih1 _ _ _ _ _ _ _ _ _ _ _ _)
   | (with_reducible exact ih2 _ _ _ _ _ _)
   | (with_reducible exact ih3 _ _ _ _ _ _ _ _)
   | (with_reducible exact impl_SketchOk.mono _ _ _ _ _ _ _ _)
   | (with_reducible exact LeO.refl _)
   | (with_reducible exact LeO.none _)
   | (with_reducible refine LeO.ite ?_ ?_)
   | (with_reducible refine LeO.bind ?_ (fun _ => ?_))
   | exact ih0 _ _ _ _ _ _ _ _ _
   | exact ih1 _ _ _ _ _ _ _ _ _ _ _ _
   | exact ih2 _ _ _ _ _ _
   | exact ih3 _ _ _ _ _ _ _ _
   | exact impl_SketchOk.mono _ _ _ _ _ _ _ _
   | exact LeO.none _
   | refine LeO.ite ?_ ?_
   | refine LeO.bind ?_ (fun _ => ?_)
  ·intro y0 y1 y2 y3 y4 y5 y6 y7 y8 y9 y10 y11
   unfold impl_Quantile.l0
   repeat' first
   | (with_reducible exact ih0 _ _ _ _ _ _ _ _ _)
   | (with_reducible exact ih1 _ _ _ _ _ _ _ _ _ _ _ _)
   | (with_reducible exact ih2 _ _ _ _ _ _)
   | (with_reducible exact ih3 _ _ _ _ _ _ _ _)
   | (with_reducible exact impl_SketchOk.mono _ _ _ _ _ _ _ _)
   | (with_reducible exact LeO.refl _)
   | (with_reducible exact LeO.none _)
   | (with_reducible refine LeO.ite ?_ ?_)
   | (with_reducible refine LeO.bind ?_ (fun _ => ?_))
   | exact ih0 _ _ _ _ _ _ _ _ _
   | exact ih1 _ _ _ _ _ _ _ _ _ _ _ _
   | exact ih2 _ _ _ _ _ _
   | exact ih3 _ _ _ _ _ _ _ _
   | exact impl_SketchOk.mono _ _ _ _ _ _ _ _
   | exact LeO.none _
   | refine LeO.ite ?_ ?_
   | refine LeO.bind ?_ (fun _ => ?_)
  ·intro y0 y1 y2 y3 y4 y5
   unfold impl_Quantile.l1
   repeat' first
   | (with_reducible exact ih0 _ _ _ _ _ _ _ _ _)
   | (with_reducible exact ih1 _ _ _ _ _ _ _ _ _ _ _ _)
   | (with_reducible exact ih2 _ _ _ _ _ _)
   | (with_reducible exact ih3 _ _ _ _ _ _ _ _)
   | (with_reducible exact impl_SketchOk.mono _ _ _ _ _ _ _ _)
   | (with_reducible exact LeO.refl _)
   | (with_reducible exact LeO.none _)
   | (with_reducible refine LeO.ite ?_ ?_)
   | (with_reducible refine LeO.bind ?_ (fun _ => ?_))
   | exact ih0 _ _ _ _ _ _ _ _ _
   | exact ih1 _ _ _ _ _ _ _ _ _ _ _ _
   | exact ih2 _ _ _ _ _ _
   | exact ih3 _ _ _ _ _ _ _ _
   | exact impl_SketchOk.mono _ _ _ _ _ _ _ _
   | exact LeO.none _
   | refine LeO.ite ?_ ?_
   | refine LeO.bind ?_ (fun _ => ?_)
  ·intro y0 y1 y2 y3 y4 y5 y6 y7
   unfold impl_Quantile.j3
   repeat' first
   | (with_reducible exact ih0 _ _ _ _ _ _ _ _ _)
   | (with_reducible exact ih1 _ _ _ _ _ _ _ _ _ _ _ _)
   | (with_reducible exact ih2 _ _ _ _ _ _)
   | (with_reducible exact ih3 _ _ _ _ _ _ _ _)
   | (with_reducible exact impl_SketchOk.mono _ _ _ _ _ _ _ _)
   | (with_reducible exact LeO.refl _)
   | (with_reducible exact LeO.none _)
   | (with_reducible refine LeO.ite ?_ ?_)
   | (with_reducible refine LeO.bind ?_ (fun _ => ?_))
   | exact ih0 _ _ _ _ _ _ _ _ _
   | exact ih1 _ _ _ _ _ _ _ _ _ _ _ _
   | exact ih2 _ _ _ _ _ _
   | exact ih3 _ _ _ _ _ _ _ _
   | exact impl_SketchOk.mono _ _ _ _ _ _ _ _
   | exact LeO.none _
   | refine LeO.ite ?_ ?_
   | refine LeO.bind ?_ (fun _ => ?_)
theorem impl_Quantile.mono : ∀ a0 a1 a2 a3 a4 a5 a6 a7 k, LeO (impl_Quantile.f k a0 a1 a2 a3 a4 a5 a6 a7) (impl_Quantile.f (k + 1) a0 a1 a2 a3 a4 a5 a6 a7) := by
 intro a0 a1 a2 a3 a4 a5 a6 a7 k
 obtain ⟨ih0, ih1, ih2, ih3⟩ := impl_Quantile.mono_l k
 unfold impl_Quantile.f
 repeat' first
   | (with_reducible exact ih0 _ _ _ _ _ _ _ _ _)
   | (with_reducible exact ih1 _ _ _ _ _ _ _ _ _ _ _ _)
   | (with_reducible exact ih2 _ _ _ _ _ _)
   | (with_reducible exact ih3 _ _ _ _ _ _ _ _)
   | (with_reducible exact impl_SketchOk.mono _ _ _ _ _ _ _ _)
   | (with_reducible exact LeO.refl _)
   | (with_reducible exact LeO.none _)
   | (with_reducible refine LeO.ite ?_ ?_)
   | (with_reducible refine LeO.bind ?_ (fun _ => ?_))
   | exact ih0 _ _ _ _ _ _ _ _ _
   | exact ih1 _ _ _ _ _ _ _ _ _ _ _ _
   | exact ih2 _ _ _ _ _ _
   | exact ih3 _ _ _ _ _ _ _ _
   | exact impl_SketchOk.mono _ _ _ _ _ _ _ _
   | exact LeO.none _
   | refine LeO.ite ?_ ?_
   | refine LeO.bind ?_ (fun _ => ?_)
set_option maxHeartbeats 8000000 in
set_option maxRecDepth 100000 in
theorem impl_Quantile.calls (k : Nat) (a0_0 : Int) (a0_1 : Int) (a0_2 : Int) (a0_3 : Int) (A0_4 : Option Addr) (c0_4 : Nat) (l0_4 : List Int) (A0_5 : Option Addr) (c0_5 : Nat) (l0_5 : List Int) (A0_6 : Option Addr) (c0_6 : Nat) (l0_6 : List (List Int)) (a1 : Int) (r1 : Int) (r2 : Int) (w : World) (hr0_4 : Kd.C (Kd.int .i64) w A0_4 l0_4.length l0_4) (hc0_4 : l0_4.length ≤ c0_4) (hr0_5 : Kd.C (Kd.int .i64) w A0_5 l0_5.length l0_5) (hc0_5 : l0_5.length ≤ c0_5) (hr0_6 : Kd.C (Kd.slice 3 (Kd.int .i64)) w A0_6 l0_6.length l0_6) (hc0_6 : l0_6.length ≤ c0_6) (h : impl_Quantile.f k a0_0 a0_1 a0_2 a0_3 l0_4 l0_5 l0_6 a1 = some (r1, r2)) :
  Calls Try.prog 37 #[.agg #[.int .i64 a0_0, .int .i64 a0_1, .int .i64 a0_2, .int .i64 a0_3, .slice A0_4 l0_4.length c0_4, .slice A0_5 l0_5.length c0_5, .slice A0_6 l0_6.length c0_6], .int .i64 a1] w fun e w' => e = .returned (.tuple #[.int .i64 r1, .int .i64 r2]) ∧ Below w.heap.size w w' := by
 have hu26 := Try.underlying26
 have HR0_4 := Aside0.mk hr0_4
 have HC0_4 := Aside0.mk hc0_4
 clear hr0_4 hc0_4
 have HR0_5 := Aside0.mk hr0_5
 have HC0_5 := Aside0.mk hc0_5
 clear hr0_5 hc0_5
 have HR0_6 := Aside0.mk hr0_6
 have HC0_6 := Aside0.mk hc0_6
 clear hr0_6 hc0_6
 have HB := Aside0.mk (Below.refl w.heap.size w)
 have H : ((impl_SketchOk.f k a0_0 a0_1 a0_2 a0_3 l0_4 l0_5 l0_6).bind fun t365 => (if t365 = true then (if a0_0 = 0 then (impl_Quantile.j0 k a1 true a0_0 a0_1 a0_2 a0_3 l0_4 l0_5 l0_6) else ((impl_within.f a1 1 1000).bind fun t366 => (impl_Quantile.j0 k a1 (!t366) a0_0 a0_1 a0_2 a0_3 l0_4 l0_5 l0_6))) else (impl_Quantile.j0 k a1 true a0_0 a0_1 a0_2 a0_3 l0_4 l0_5 l0_6))) = some (r1, r2) := h
 clear h
 have HC3 := Aside0.mk H
 clear H
 go_enter Try.func37, Try.ntmps37
 go_upto_region 1 with (first | ((with_reducible refine gate_dst (N := 2) rfl ?_); refine box_event ?hg (N := 2) ?hd (cs := #[.int .i64 a0_0, .int .i64 a0_1, .int .i64 a0_2, .int .i64 a0_3, .slice A0_4 l0_4.length c0_4, .slice A0_5 l0_5.length c0_5, .slice A0_6 l0_6.length c0_6]) (t := 26) ?hr ?_; (case hd => rfl); (case hg => rfl); (case hr => first | (go_simp; done) | (go_simp; rfl)); intro gb364 hg w4 hbox hb; have n0_ := Aside0.mk (below_step Z10x8 hb); have n1_ := Aside0.mk (hbox); have n2_ := Aside0.mk ((by rw [hg]; exact (below_size Z10x8) : w.heap.size ≤ gb364)); have n3_ := Aside0.mk ((by rw [hg]; exact (below_size Z10x8) : w.heap.size ≤ gb364)); clear HB; have HB := n0_; have BK364 := n1_; have GW364 := n2_; have GE364 := n3_; clear n0_ n1_ n2_ n3_; clear hb hbox hg))
 (try simp only [Act.put, List.setIfInBounds_toArray, List.set_cons_zero, List.set_cons_succ])
 go_cut [24] (fun v24 wc => ∃ (kq : Nat) (x24_2 : Bool), v24 = .bool x24_2 ∧ Aside0 (impl_Quantile.j0 kq a1 x24_2 a0_0 a0_1 a0_2 a0_3 l0_4 l0_5 l0_6 = some (r1, r2)) ∧ Aside0 (kq ≤ k) ∧ Aside0 (wc.heap[gb364]? = some (.cells #[.int .i64 a0_0, .int .i64 a0_1, .int .i64 a0_2, .int .i64 a0_3, (.slice A0_4 l0_4.length c0_4), (.slice A0_5 l0_5.length c0_5), (.slice A0_6 l0_6.length c0_6)] 26 (0, 0))) ∧ Aside0 (Below w.heap.size w wc))
 case first =>
  have H := HC3.out
  clear HC3
  replace H := Option.bind_eq_some_iff.mp H
  obtain ⟨t365, A50, H⟩ := H
  replace H : (if t365 = true then (if a0_0 = 0 then (impl_Quantile.j0 k a1 true a0_0 a0_1 a0_2 a0_3 l0_4 l0_5 l0_6) else ((impl_within.f a1 1 1000).bind fun t366 => (impl_Quantile.j0 k a1 (!t366) a0_0 a0_1 a0_2 a0_3 l0_4 l0_5 l0_6))) else (impl_Quantile.j0 k a1 true a0_0 a0_1 a0_2 a0_3 l0_4 l0_5 l0_6)) = some (r1, r2) := H
  have A5 := Aside0.mk A50
  clear A50
  by_cases c6 : t365 = true
  ·subst c6
   have H1 : (if a0_0 = 0 then (impl_Quantile.j0 k a1 true a0_0 a0_1 a0_2 a0_3 l0_4 l0_5 l0_6) else ((impl_within.f a1 1 1000).bind fun t366 => (impl_Quantile.j0 k a1 (!t366) a0_0 a0_1 a0_2 a0_3 l0_4 l0_5 l0_6))) = some (r1, r2) := by rw [if_pos rfl] at H; exact H
   clear H
   have H := H1
   clear H1
   by_cases c7 : a0_0 = 0
   ·rw [if_pos c7] at H
    have c7b0 : (a0_0 == 0) = true := beq_iff_eq.mpr c7
    have c7b1 : (a0_0 != 0) = false := bne_eq_false_iff_eq.mpr c7
    clear c7
    (first | rw [c7b0] | (simp only [i64_w, i32_w]; rw [c7b0]) | rw [c7b1] | rw [c7b2] | rw [c7b3] | skip)
    have H' := Aside0.mk H
    clear H
    have hcz8_0 : w4.cell? ⟨gb364, 0, none⟩ = some (.int .i64 a0_0) := (blk_cell BK364.out 0).trans rfl
    have hcz8_1 : w4.cell? ⟨gb364, 1, none⟩ = some (.int .i64 a0_1) := (blk_cell BK364.out 1).trans rfl
    have hcz8_2 : w4.cell? ⟨gb364, 2, none⟩ = some (.int .i64 a0_2) := (blk_cell BK364.out 2).trans rfl
    have hcz8_3 : w4.cell? ⟨gb364, 3, none⟩ = some (.int .i64 a0_3) := (blk_cell BK364.out 3).trans rfl
    have hcz8_4 : w4.cell? ⟨gb364, 4, none⟩ = some (.slice A0_4 l0_4.length c0_4) := (blk_cell BK364.out 4).trans rfl
    have hcz8_5 : w4.cell? ⟨gb364, 5, none⟩ = some (.slice A0_5 l0_5.length c0_5) := (blk_cell BK364.out 5).trans rfl
    have hcz8_6 : w4.cell? ⟨gb364, 6, none⟩ = some (.slice A0_6 l0_6.length c0_6) := (blk_cell BK364.out 6).trans rfl
    have hfz8_0 := blk_frozen BK364.out 0
    have hfz8_1 := blk_frozen BK364.out 1
    have hfz8_2 := blk_frozen BK364.out 2
    have hfz8_3 := blk_frozen BK364.out 3
    have hfz8_4 := blk_frozen BK364.out 4
    have hfz8_5 := blk_frozen BK364.out 5
    have hfz8_6 := blk_frozen BK364.out 6
    go_wp2_with (first | ((with_reducible refine gate_callee (f := 35) rfl ?_); refine goesL_ (some 13) rfl rfl Try.func35 (by kernel_rfl) rfl #[.agg #[.int .i64 a0_0, .int .i64 a0_1, .int .i64 a0_2, .int .i64 a0_3, .slice A0_4 l0_4.length c0_4, .slice A0_5 l0_5.length c0_5, .slice A0_6 l0_6.length c0_6]] rfl Z10x2 ?_; (with_reducible refine (impl_SketchOk.calls k a0_0 a0_1 a0_2 a0_3 _ _ l0_4 _ _ l0_5 _ _ l0_6 true _ ?side1 ?side2 ?side3 ?side4 ?side5 ?side6 A5.out).mono ?_); (case side1 => exact Z10x4); (case side2 => exact HC0_4.out); (case side3 => exact Z10x5); (case side4 => exact HC0_5.out); (case side5 => exact Z10x6); (case side6 => exact HC0_6.out); rintro e w9 ⟨rfl, hb⟩; refine ⟨_, rfl, ?_⟩; have n0_ := Aside0.mk (blk_below (g := gb364) (o := .cells #[.int .i64 a0_0, .int .i64 a0_1, .int .i64 a0_2, .int .i64 a0_3, .slice A0_4 l0_4.length c0_4, .slice A0_5 l0_5.length c0_5, .slice A0_6 l0_6.length c0_6] 26 (0, 0)) Z10x1 hb); have n1_ := Aside0.mk (below_step Z10x0 hb); clear BK364; clear HB; have BK364 := n0_; have HB := n1_; clear n0_ n1_; (try clear hb); (try clear hb2); (try clear hk); (try clear hi); have hcz10_0 : w9.cell? ⟨gb364, 0, none⟩ = some (.int .i64 a0_0) := (blk_cell BK364.out 0).trans rfl; have hcz10_1 : w9.cell? ⟨gb364, 1, none⟩ = some (.int .i64 a0_1) := (blk_cell BK364.out 1).trans rfl; have hcz10_2 : w9.cell? ⟨gb364, 2, none⟩ = some (.int .i64 a0_2) := (blk_cell BK364.out 2).trans rfl; have hcz10_3 : w9.cell? ⟨gb364, 3, none⟩ = some (.int .i64 a0_3) := (blk_cell BK364.out 3).trans rfl; have hcz10_4 : w9.cell? ⟨gb364, 4, none⟩ = some (.slice A0_4 l0_4.length c0_4) := (blk_cell BK364.out 4).trans rfl; have hcz10_5 : w9.cell? ⟨gb364, 5, none⟩ = some (.slice A0_5 l0_5.length c0_5) := (blk_cell BK364.out 5).trans rfl; have hcz10_6 : w9.cell? ⟨gb364, 6, none⟩ = some (.slice A0_6 l0_6.length c0_6) := (blk_cell BK364.out 6).trans rfl; have hfz10_0 := blk_frozen BK364.out 0; have hfz10_1 := blk_frozen BK364.out 1; have hfz10_2 := blk_frozen BK364.out 2; have hfz10_3 := blk_frozen BK364.out 3; have hfz10_4 := blk_frozen BK364.out 4; have hfz10_5 := blk_frozen BK364.out 5; have hfz10_6 := blk_frozen BK364.out 6))
    (first | go_meet | (refine Met.intro ?_; go_step; (repeat apply Exists.intro); refine ⟨?rel, ?eqs⟩; case eqs => ((try rw [show (!true) = true from by assumption]); (try rw [show (!true) = false from by assumption]); (try rw [show (a0_0 == 0) = true from by assumption]); (try rw [show (a0_0 == 0) = false from by assumption]); (try rfl))))
    case rel => exact ⟨_, (true), Z10x3, H', ⟨by first | omega | exact Nat.le_refl _⟩, ⟨Z10x1⟩, ⟨Z10x0⟩⟩
   ·rw [if_neg c7] at H
    have c7b0 : (a0_0 == 0) = false := beq_eq_false_iff_ne.mpr c7
    have c7b1 : (a0_0 != 0) = true := bne_iff_ne.mpr c7
    (first | rw [c7b0] | (simp only [i64_w, i32_w]; rw [c7b0]) | rw [c7b1] | rw [c7b2] | rw [c7b3] | skip)
    replace H := Option.bind_eq_some_iff.mp H
    obtain ⟨t366, A110, H⟩ := H
    replace H : (impl_Quantile.j0 k a1 (!t366) a0_0 a0_1 a0_2 a0_3 l0_4 l0_5 l0_6) = some (r1, r2) := H
    have A11 := Aside0.mk A110
    clear A110
    have H' := Aside0.mk H
    clear H
    have hcz12_0 : w4.cell? ⟨gb364, 0, none⟩ = some (.int .i64 a0_0) := (blk_cell BK364.out 0).trans rfl
    have hcz12_1 : w4.cell? ⟨gb364, 1, none⟩ = some (.int .i64 a0_1) := (blk_cell BK364.out 1).trans rfl
    have hcz12_2 : w4.cell? ⟨gb364, 2, none⟩ = some (.int .i64 a0_2) := (blk_cell BK364.out 2).trans rfl
    have hcz12_3 : w4.cell? ⟨gb364, 3, none⟩ = some (.int .i64 a0_3) := (blk_cell BK364.out 3).trans rfl
    have hcz12_4 : w4.cell? ⟨gb364, 4, none⟩ = some (.slice A0_4 l0_4.length c0_4) := (blk_cell BK364.out 4).trans rfl
    have hcz12_5 : w4.cell? ⟨gb364, 5, none⟩ = some (.slice A0_5 l0_5.length c0_5) := (blk_cell BK364.out 5).trans rfl
    have hcz12_6 : w4.cell? ⟨gb364, 6, none⟩ = some (.slice A0_6 l0_6.length c0_6) := (blk_cell BK364.out 6).trans rfl
    have hfz12_0 := blk_frozen BK364.out 0
    have hfz12_1 := blk_frozen BK364.out 1
    have hfz12_2 := blk_frozen BK364.out 2
    have hfz12_3 := blk_frozen BK364.out 3
    have hfz12_4 := blk_frozen BK364.out 4
    have hfz12_5 := blk_frozen BK364.out 5
    have hfz12_6 := blk_frozen BK364.out 6
    go_wp2_with (first | ((with_reducible refine gate_callee (f := 35) rfl ?_); refine goesL_ (some 13) rfl rfl Try.func35 (by kernel_rfl) rfl #[.agg #[.int .i64 a0_0, .int .i64 a0_1, .int .i64 a0_2, .int .i64 a0_3, .slice A0_4 l0_4.length c0_4, .slice A0_5 l0_5.length c0_5, .slice A0_6 l0_6.length c0_6]] rfl Z10x2 ?_; (with_reducible refine (impl_SketchOk.calls k a0_0 a0_1 a0_2 a0_3 _ _ l0_4 _ _ l0_5 _ _ l0_6 true _ ?side1 ?side2 ?side3 ?side4 ?side5 ?side6 A5.out).mono ?_); (case side1 => exact Z10x4); (case side2 => exact HC0_4.out); (case side3 => exact Z10x5); (case side4 => exact HC0_5.out); (case side5 => exact Z10x6); (case side6 => exact HC0_6.out); rintro e w13 ⟨rfl, hb⟩; refine ⟨_, rfl, ?_⟩; have n0_ := Aside0.mk (blk_below (g := gb364) (o := .cells #[.int .i64 a0_0, .int .i64 a0_1, .int .i64 a0_2, .int .i64 a0_3, .slice A0_4 l0_4.length c0_4, .slice A0_5 l0_5.length c0_5, .slice A0_6 l0_6.length c0_6] 26 (0, 0)) Z10x1 hb); have n1_ := Aside0.mk (below_step Z10x0 hb); clear BK364; clear HB; have BK364 := n0_; have HB := n1_; clear n0_ n1_; (try clear hb); (try clear hb2); (try clear hk); (try clear hi); have hcz14_0 : w13.cell? ⟨gb364, 0, none⟩ = some (.int .i64 a0_0) := (blk_cell BK364.out 0).trans rfl; have hcz14_1 : w13.cell? ⟨gb364, 1, none⟩ = some (.int .i64 a0_1) := (blk_cell BK364.out 1).trans rfl; have hcz14_2 : w13.cell? ⟨gb364, 2, none⟩ = some (.int .i64 a0_2) := (blk_cell BK364.out 2).trans rfl; have hcz14_3 : w13.cell? ⟨gb364, 3, none⟩ = some (.int .i64 a0_3) := (blk_cell BK364.out 3).trans rfl; have hcz14_4 : w13.cell? ⟨gb364, 4, none⟩ = some (.slice A0_4 l0_4.length c0_4) := (blk_cell BK364.out 4).trans rfl; have hcz14_5 : w13.cell? ⟨gb364, 5, none⟩ = some (.slice A0_5 l0_5.length c0_5) := (blk_cell BK364.out 5).trans rfl; have hcz14_6 : w13.cell? ⟨gb364, 6, none⟩ = some (.slice A0_6 l0_6.length c0_6) := (blk_cell BK364.out 6).trans rfl; have hfz14_0 := blk_frozen BK364.out 0; have hfz14_1 := blk_frozen BK364.out 1; have hfz14_2 := blk_frozen BK364.out 2; have hfz14_3 := blk_frozen BK364.out 3; have hfz14_4 := blk_frozen BK364.out 4; have hfz14_5 := blk_frozen BK364.out 5; have hfz14_6 := blk_frozen BK364.out 6) | (go_at_call 67; (with_reducible refine (impl_within.calls a1 1 1000 t366 _ A11.out).mono ?_); rintro e w' ⟨rfl, ⟨nd, rfl⟩⟩))
    (first | go_meet | (refine Met.intro ?_; go_step; (repeat apply Exists.intro); refine ⟨?rel, ?eqs⟩; case eqs => ((try rw [show (!true) = true from by assumption]); (try rw [show (!true) = false from by assumption]); (try rw [show (a0_0 == 0) = true from by assumption]); (try rw [show (a0_0 == 0) = false from by assumption]); (try rw [show (!t366) = true from by assumption]); (try rw [show (!t366) = false from by assumption]); (try rfl))))
    case rel => exact ⟨_, (!t366), Z10x3, H', ⟨by first | omega | exact Nat.le_refl _⟩, ⟨Z10x1⟩, ⟨Z10x0⟩⟩
  ·replace c6 := Bool.eq_false_iff.mpr c6
   subst c6
   have H1 : (impl_Quantile.j0 k a1 true a0_0 a0_1 a0_2 a0_3 l0_4 l0_5 l0_6) = some (r1, r2) := by rw [if_neg (show ¬ (false = true) by decide)] at H; exact H
   clear H
   have H := H1
   clear H1
   have H' := Aside0.mk H
   clear H
   have hcz15_0 : w4.cell? ⟨gb364, 0, none⟩ = some (.int .i64 a0_0) := (blk_cell BK364.out 0).trans rfl
   have hcz15_1 : w4.cell? ⟨gb364, 1, none⟩ = some (.int .i64 a0_1) := (blk_cell BK364.out 1).trans rfl
   have hcz15_2 : w4.cell? ⟨gb364, 2, none⟩ = some (.int .i64 a0_2) := (blk_cell BK364.out 2).trans rfl
   have hcz15_3 : w4.cell? ⟨gb364, 3, none⟩ = some (.int .i64 a0_3) := (blk_cell BK364.out 3).trans rfl
   have hcz15_4 : w4.cell? ⟨gb364, 4, none⟩ = some (.slice A0_4 l0_4.length c0_4) := (blk_cell BK364.out 4).trans rfl
   have hcz15_5 : w4.cell? ⟨gb364, 5, none⟩ = some (.slice A0_5 l0_5.length c0_5) := (blk_cell BK364.out 5).trans rfl
   have hcz15_6 : w4.cell? ⟨gb364, 6, none⟩ = some (.slice A0_6 l0_6.length c0_6) := (blk_cell BK364.out 6).trans rfl
   have hfz15_0 := blk_frozen BK364.out 0
   have hfz15_1 := blk_frozen BK364.out 1
   have hfz15_2 := blk_frozen BK364.out 2
   have hfz15_3 := blk_frozen BK364.out 3
   have hfz15_4 := blk_frozen BK364.out 4
   have hfz15_5 := blk_frozen BK364.out 5
   have hfz15_6 := blk_frozen BK364.out 6
   go_wp2_with (first | ((with_reducible refine gate_callee (f := 35) rfl ?_); refine goesL_ (some 13) rfl rfl Try.func35 (by kernel_rfl) rfl #[.agg #[.int .i64 a0_0, .int .i64 a0_1, .int .i64 a0_2, .int .i64 a0_3, .slice A0_4 l0_4.length c0_4, .slice A0_5 l0_5.length c0_5, .slice A0_6 l0_6.length c0_6]] rfl Z10x2 ?_; (with_reducible refine (impl_SketchOk.calls k a0_0 a0_1 a0_2 a0_3 _ _ l0_4 _ _ l0_5 _ _ l0_6 false _ ?side1 ?side2 ?side3 ?side4 ?side5 ?side6 A5.out).mono ?_); (case side1 => exact Z10x4); (case side2 => exact HC0_4.out); (case side3 => exact Z10x5); (case side4 => exact HC0_5.out); (case side5 => exact Z10x6); (case side6 => exact HC0_6.out); rintro e w16 ⟨rfl, hb⟩; refine ⟨_, rfl, ?_⟩; have n0_ := Aside0.mk (blk_below (g := gb364) (o := .cells #[.int .i64 a0_0, .int .i64 a0_1, .int .i64 a0_2, .int .i64 a0_3, .slice A0_4 l0_4.length c0_4, .slice A0_5 l0_5.length c0_5, .slice A0_6 l0_6.length c0_6] 26 (0, 0)) Z10x1 hb); have n1_ := Aside0.mk (below_step Z10x0 hb); clear BK364; clear HB; have BK364 := n0_; have HB := n1_; clear n0_ n1_; (try clear hb); (try clear hb2); (try clear hk); (try clear hi)))
   (first | go_meet | (refine Met.intro ?_; go_step; (repeat apply Exists.intro); refine ⟨?rel, ?eqs⟩; case eqs => ((try rw [show (!false) = true from by assumption]); (try rw [show (!false) = false from by assumption]); (try rfl))))
   case rel => exact ⟨_, (true), Z10x3, H', ⟨by first | omega | exact Nat.le_refl _⟩, ⟨Z10x1⟩, ⟨Z10x0⟩⟩
 case rest =>
  clear HC3
  try clear p2
  try clear c3
  try clear c6
  try clear c7
  try clear c7b0
  try clear c7b1
  try clear c7b2
  try clear hcz10_0
  try clear hcz10_1
  try clear hcz10_2
  try clear hcz10_3
  try clear hcz10_4
  try clear hcz10_5
  try clear hcz10_6
  try clear hcz12_0
  try clear hcz12_1
  try clear hcz12_2
  try clear hcz12_3
  try clear hcz12_4
  try clear hcz12_5
  try clear hcz12_6
  try clear hcz14_0
  try clear hcz14_1
  try clear hcz14_2
  try clear hcz14_3
  try clear hcz14_4
  try clear hcz14_5
  try clear hcz14_6
  try clear hcz15_0
  try clear hcz15_1
  try clear hcz15_2
  try clear hcz15_3
  try clear hcz15_4
  try clear hcz15_5
  try clear hcz15_6
  try clear hcz8_0
  try clear hcz8_1
  try clear hcz8_2
  try clear hcz8_3
  try clear hcz8_4
  try clear hcz8_5
  try clear hcz8_6
  try clear hfz10_0
  try clear hfz10_1
  try clear hfz10_2
  try clear hfz10_3
  try clear hfz10_4
  try clear hfz10_5
  try clear hfz10_6
  try clear hfz12_0
  try clear hfz12_1
  try clear hfz12_2
  try clear hfz12_3
  try clear hfz12_4
  try clear hfz12_5
  try clear hfz12_6
  try clear hfz14_0
  try clear hfz14_1
  try clear hfz14_2
  try clear hfz14_3
  try clear hfz14_4
  try clear hfz14_5
  try clear hfz14_6
  try clear hfz15_0
  try clear hfz15_1
  try clear hfz15_2
  try clear hfz15_3
  try clear hfz15_4
  try clear hfz15_5
  try clear hfz15_6
  try clear hfz8_0
  try clear hfz8_1
  try clear hfz8_2
  try clear hfz8_3
  try clear hfz8_4
  try clear hfz8_5
  try clear hfz8_6
  obtain ⟨kq, x24_2, rfl, HA, HJ2, BK364, HB⟩ := hcut
  cases kq with
  | zero => exact absurd HA.out (by simp [impl_Quantile.j0])
  | succ kj2 =>
   have H := HA.out
   clear HA
   simp only [impl_Quantile.j0] at H
   by_cases c17 : x24_2 = true
   ·subst c17
    have H1 : (some (0, 0)) = some (r1, r2) := by rw [if_pos rfl] at H; exact H
    clear H
    have H := H1
    clear H1
    simp only [Option.some.injEq, Prod.mk.injEq] at H
    obtain ⟨rfl, rfl⟩ := H
    go_wp2
    go_ret2
    exact ⟨Z10x7, Z10x0⟩
   ·replace c17 := Bool.eq_false_iff.mpr c17
    subst c17
    have H1 : (impl_Quantile.l0 kj2 a1 0 l0_4 (l0_4.length : Int) 0 a0_0 a0_1 a0_2 a0_3 l0_4 l0_5 l0_6) = some (r1, r2) := by rw [if_neg (show ¬ (false = true) by decide)] at H; exact H
    clear H
    have H := H1
    clear H1
    have H' := Aside0.mk H
    clear H
    have hcz18_0 : wc.cell? ⟨gb364, 0, none⟩ = some (.int .i64 a0_0) := (blk_cell BK364.out 0).trans rfl
    have hcz18_1 : wc.cell? ⟨gb364, 1, none⟩ = some (.int .i64 a0_1) := (blk_cell BK364.out 1).trans rfl
    have hcz18_2 : wc.cell? ⟨gb364, 2, none⟩ = some (.int .i64 a0_2) := (blk_cell BK364.out 2).trans rfl
    have hcz18_3 : wc.cell? ⟨gb364, 3, none⟩ = some (.int .i64 a0_3) := (blk_cell BK364.out 3).trans rfl
    have hcz18_4 : wc.cell? ⟨gb364, 4, none⟩ = some (.slice A0_4 l0_4.length c0_4) := (blk_cell BK364.out 4).trans rfl
    have hcz18_5 : wc.cell? ⟨gb364, 5, none⟩ = some (.slice A0_5 l0_5.length c0_5) := (blk_cell BK364.out 5).trans rfl
    have hcz18_6 : wc.cell? ⟨gb364, 6, none⟩ = some (.slice A0_6 l0_6.length c0_6) := (blk_cell BK364.out 6).trans rfl
    have hfz18_0 := blk_frozen BK364.out 0
    have hfz18_1 := blk_frozen BK364.out 1
    have hfz18_2 := blk_frozen BK364.out 2
    have hfz18_3 := blk_frozen BK364.out 3
    have hfz18_4 := blk_frozen BK364.out 4
    have hfz18_5 := blk_frozen BK364.out 5
    have hfz18_6 := blk_frozen BK364.out 6
    go_wp2
    go_loopg [6, 28] kj2 (fun kq v6 v28 w' => ∃ (x6_2 : Int) (x28_2 : Int), v6 = .int .i64 x6_2 ∧ v28 = .int .i64 x28_2 ∧ Aside0 (impl_Quantile.l0 kq a1 x6_2 l0_4 (l0_4.length : Int) x28_2 a0_0 a0_1 a0_2 a0_3 l0_4 l0_5 l0_6 = some (r1, r2)) ∧ Aside0 (kq ≤ kj2) ∧ Aside0 (w'.heap[gb364]? = some (.cells #[.int .i64 a0_0, .int .i64 a0_1, .int .i64 a0_2, .int .i64 a0_3, (.slice A0_4 l0_4.length c0_4), (.slice A0_5 l0_5.length c0_5), (.slice A0_6 l0_6.length c0_6)] 26 (0, 0))) ∧ Aside0 (Below w.heap.size w w'))
    case atStart => exact ⟨(0), (0), Z10x3, Z10x3, H', ⟨Nat.le_refl _⟩, ⟨Z10x1⟩, ⟨Z10x0⟩⟩
    case round =>
     clear H'
     try clear c1
     try clear p2
     try clear c3
     try clear c6
     try clear c7
     try clear c7b0
     try clear c7b1
     try clear c7b2
     try clear c17
     try clear hcz10_0
     try clear hcz10_1
     try clear hcz10_2
     try clear hcz10_3
     try clear hcz10_4
     try clear hcz10_5
     try clear hcz10_6
     try clear hcz12_0
     try clear hcz12_1
     try clear hcz12_2
     try clear hcz12_3
     try clear hcz12_4
     try clear hcz12_5
     try clear hcz12_6
     try clear hcz14_0
     try clear hcz14_1
     try clear hcz14_2
     try clear hcz14_3
     try clear hcz14_4
     try clear hcz14_5
     try clear hcz14_6
     try clear hcz15_0
     try clear hcz15_1
     try clear hcz15_2
     try clear hcz15_3
     try clear hcz15_4
     try clear hcz15_5
     try clear hcz15_6
     try clear hcz18_0
     try clear hcz18_1
     try clear hcz18_2
     try clear hcz18_3
     try clear hcz18_4
     try clear hcz18_5
     try clear hcz18_6
     try clear hcz8_0
     try clear hcz8_1
     try clear hcz8_2
     try clear hcz8_3
     try clear hcz8_4
     try clear hcz8_5
     try clear hcz8_6
     try clear hfz10_0
     try clear hfz10_1
     try clear hfz10_2
     try clear hfz10_3
     try clear hfz10_4
     try clear hfz10_5
     try clear hfz10_6
     try clear hfz12_0
     try clear hfz12_1
     try clear hfz12_2
     try clear hfz12_3
     try clear hfz12_4
     try clear hfz12_5
     try clear hfz12_6
     try clear hfz14_0
     try clear hfz14_1
     try clear hfz14_2
     try clear hfz14_3
     try clear hfz14_4
     try clear hfz14_5
     try clear hfz14_6
     try clear hfz15_0
     try clear hfz15_1
     try clear hfz15_2
     try clear hfz15_3
     try clear hfz15_4
     try clear hfz15_5
     try clear hfz15_6
     try clear hfz18_0
     try clear hfz18_1
     try clear hfz18_2
     try clear hfz18_3
     try clear hfz18_4
     try clear hfz18_5
     try clear hfz18_6
     try clear hfz8_0
     try clear hfz8_1
     try clear hfz8_2
     try clear hfz8_3
     try clear hfz8_4
     try clear hfz8_5
     try clear hfz8_6
     try clear p2
     (try clear BK364)
     obtain ⟨x6_2, x28_2, rfl, rfl, HA, HK2, BK364, HB⟩ := hrel
     cases gk with
     | zero => exact absurd HA.out (by simp [impl_Quantile.l0])
     | succ k2 =>
      have H := HA.out
      clear HA
      simp only [impl_Quantile.l0] at H
      by_cases c19 : x28_2 < (l0_4.length : Int)
      ·rw [if_pos c19] at H
       have c19b0 : decide (x28_2 < (l0_4.length : Int)) = true := decide_eq_true c19
       clear c19
       by_cases c20 : 0 ≤ x28_2
       ·rw [if_pos c20] at H
        have c20b0 : decide (0 ≤ x28_2) = true := decide_eq_true c20
        clear c20
        by_cases c21 : x28_2 < (l0_4.length : Int)
        ·rw [if_pos c21] at H
         have c21b0 : decide (x28_2 < (l0_4.length : Int)) = true := decide_eq_true c21
         clear c21
         have H' := Aside0.mk H
         clear H
         have p367 : 0 ≤ (x28_2 : Int) := of_decide_eq_true (by first | (with_reducible assumption) | assumption)
         have q367 : x28_2 < (l0_4.length : Int) := of_decide_eq_true (by first | (with_reducible assumption) | assumption)
         obtain ⟨ad367, e367, hx367_0⟩ := Kd.at_int HR0_4.out x28_2 p367 q367
         cases e367
         replace hx367_0 := (HB.out.cell (World.block_lt_of_cell? w _ hx367_0)).trans hx367_0
         replace p367 := eq_true p367
         replace q367 := eq_true q367
         go_wp2
         go_roundg k2
         case measure => have := HJ2.out; have := HK2.out; omega
         case rel => exact ⟨(wrap64 (x6_2 + (rd l0_4 x28_2))), (wrap64 (x28_2 + 1)), Z10x3, Z10x3, H', ⟨by have := HJ2.out; have := HK2.out; omega⟩, ⟨Z10x1⟩, ⟨Z10x0⟩⟩
        ·rw [if_neg c21] at H
         exact absurd H (by simp)
       ·rw [if_neg c20] at H
        exact absurd H (by simp)
      ·rw [if_neg c19] at H
       have c19b0 : decide (x28_2 < (l0_4.length : Int)) = false := decide_eq_false c19
       clear c19
       have H' := Aside0.mk H
       clear H
       have hcz22_0 : wr.cell? ⟨gb364, 0, none⟩ = some (.int .i64 a0_0) := (blk_cell BK364.out 0).trans rfl
       have hcz22_1 : wr.cell? ⟨gb364, 1, none⟩ = some (.int .i64 a0_1) := (blk_cell BK364.out 1).trans rfl
       have hcz22_2 : wr.cell? ⟨gb364, 2, none⟩ = some (.int .i64 a0_2) := (blk_cell BK364.out 2).trans rfl
       have hcz22_3 : wr.cell? ⟨gb364, 3, none⟩ = some (.int .i64 a0_3) := (blk_cell BK364.out 3).trans rfl
       have hcz22_4 : wr.cell? ⟨gb364, 4, none⟩ = some (.slice A0_4 l0_4.length c0_4) := (blk_cell BK364.out 4).trans rfl
       have hcz22_5 : wr.cell? ⟨gb364, 5, none⟩ = some (.slice A0_5 l0_5.length c0_5) := (blk_cell BK364.out 5).trans rfl
       have hcz22_6 : wr.cell? ⟨gb364, 6, none⟩ = some (.slice A0_6 l0_6.length c0_6) := (blk_cell BK364.out 6).trans rfl
       have hfz22_0 := blk_frozen BK364.out 0
       have hfz22_1 := blk_frozen BK364.out 1
       have hfz22_2 := blk_frozen BK364.out 2
       have hfz22_3 := blk_frozen BK364.out 3
       have hfz22_4 := blk_frozen BK364.out 4
       have hfz22_5 := blk_frozen BK364.out 5
       have hfz22_6 := blk_frozen BK364.out 6
       go_wp2
       go_loopg [9, 39] k2 (fun kq v9 v39 w' => ∃ (x9_3 : Int) (x39_3 : Int), v9 = .int .i64 x9_3 ∧ v39 = .int .i64 x39_3 ∧ Aside0 (impl_Quantile.l1 kq a1 x6_2 x9_3 l0_4 (l0_4.length : Int) x39_3 = some (r1, r2)) ∧ Aside0 (kq ≤ k2) ∧ Aside0 (w'.heap[gb364]? = some (.cells #[.int .i64 a0_0, .int .i64 a0_1, .int .i64 a0_2, .int .i64 a0_3, (.slice A0_4 l0_4.length c0_4), (.slice A0_5 l0_5.length c0_5), (.slice A0_6 l0_6.length c0_6)] 26 (0, 0))) ∧ Aside0 (Below w.heap.size w w'))
       case atStart => exact ⟨(0), (0), Z10x3, Z10x3, H', ⟨Nat.le_refl _⟩, ⟨Z10x1⟩, ⟨Z10x0⟩⟩
       case round =>
        clear H'
        try clear c1
        try clear c2
        try clear p2
        try clear c3
        try clear p3
        try clear q3
        try clear hx3
        try clear c6
        try clear p6
        try clear c7
        try clear c7b0
        try clear c7b1
        try clear c7b2
        try clear c17
        try clear c19
        try clear c19b0
        try clear c20
        try clear c20b0
        try clear c21
        try clear c21b0
        try clear hcz10_0
        try clear hcz10_1
        try clear hcz10_2
        try clear hcz10_3
        try clear hcz10_4
        try clear hcz10_5
        try clear hcz10_6
        try clear hcz12_0
        try clear hcz12_1
        try clear hcz12_2
        try clear hcz12_3
        try clear hcz12_4
        try clear hcz12_5
        try clear hcz12_6
        try clear hcz14_0
        try clear hcz14_1
        try clear hcz14_2
        try clear hcz14_3
        try clear hcz14_4
        try clear hcz14_5
        try clear hcz14_6
        try clear hcz15_0
        try clear hcz15_1
        try clear hcz15_2
        try clear hcz15_3
        try clear hcz15_4
        try clear hcz15_5
        try clear hcz15_6
        try clear hcz18_0
        try clear hcz18_1
        try clear hcz18_2
        try clear hcz18_3
        try clear hcz18_4
        try clear hcz18_5
        try clear hcz18_6
        try clear hcz22_0
        try clear hcz22_1
        try clear hcz22_2
        try clear hcz22_3
        try clear hcz22_4
        try clear hcz22_5
        try clear hcz22_6
        try clear hcz8_0
        try clear hcz8_1
        try clear hcz8_2
        try clear hcz8_3
        try clear hcz8_4
        try clear hcz8_5
        try clear hcz8_6
        try clear hfz10_0
        try clear hfz10_1
        try clear hfz10_2
        try clear hfz10_3
        try clear hfz10_4
        try clear hfz10_5
        try clear hfz10_6
        try clear hfz12_0
        try clear hfz12_1
        try clear hfz12_2
        try clear hfz12_3
        try clear hfz12_4
        try clear hfz12_5
        try clear hfz12_6
        try clear hfz14_0
        try clear hfz14_1
        try clear hfz14_2
        try clear hfz14_3
        try clear hfz14_4
        try clear hfz14_5
        try clear hfz14_6
        try clear hfz15_0
        try clear hfz15_1
        try clear hfz15_2
        try clear hfz15_3
        try clear hfz15_4
        try clear hfz15_5
        try clear hfz15_6
        try clear hfz18_0
        try clear hfz18_1
        try clear hfz18_2
        try clear hfz18_3
        try clear hfz18_4
        try clear hfz18_5
        try clear hfz18_6
        try clear hfz22_0
        try clear hfz22_1
        try clear hfz22_2
        try clear hfz22_3
        try clear hfz22_4
        try clear hfz22_5
        try clear hfz22_6
        try clear hfz8_0
        try clear hfz8_1
        try clear hfz8_2
        try clear hfz8_3
        try clear hfz8_4
        try clear hfz8_5
        try clear hfz8_6
        try clear hx367_0
        try clear p2
        try clear p367
        try clear q367
        (try clear BK364)
        obtain ⟨x9_3, x39_3, rfl, rfl, HA, HK3, BK364, HB⟩ := hrel
        cases gk with
        | zero => exact absurd HA.out (by simp [impl_Quantile.l1])
        | succ k3 =>
         have H := HA.out
         clear HA
         simp only [impl_Quantile.l1] at H
         by_cases c23 : x39_3 < (l0_4.length : Int)
         ·rw [if_pos c23] at H
          have c23b0 : decide (x39_3 < (l0_4.length : Int)) = true := decide_eq_true c23
          clear c23
          by_cases c24 : 0 ≤ x39_3
          ·rw [if_pos c24] at H
           have c24b0 : decide (0 ≤ x39_3) = true := decide_eq_true c24
           clear c24
           by_cases c25 : x39_3 < (l0_4.length : Int)
           ·rw [if_pos c25] at H
            have c25b0 : decide (x39_3 < (l0_4.length : Int)) = true := decide_eq_true c25
            clear c25
            have HC26 := Aside0.mk H
            clear H
            have p368 : 0 ≤ (x39_3 : Int) := of_decide_eq_true (by first | (with_reducible assumption) | assumption)
            have q368 : x39_3 < (l0_4.length : Int) := of_decide_eq_true (by first | (with_reducible assumption) | assumption)
            obtain ⟨ad368, e368, hx368_0⟩ := Kd.at_int HR0_4.out x39_3 p368 q368
            cases e368
            replace hx368_0 := (HB.out.cell (World.block_lt_of_cell? w _ hx368_0)).trans hx368_0
            replace p368 := eq_true p368
            replace q368 := eq_true q368
            go_upto_region 14 with (fail)
            go_cut [56] (fun v56 wc => ∃ (kq : Nat) (x56_25 : Bool), v56 = .bool x56_25 ∧ Aside0 (impl_Quantile.j3 kq a1 x6_2 (wrap64 (x9_3 + (rd l0_4 x39_3))) x39_3 l0_4 (l0_4.length : Int) x39_3 x56_25 = some (r1, r2)) ∧ Aside0 (kq ≤ k3) ∧ Aside0 (wc.heap[gb364]? = some (.cells #[.int .i64 a0_0, .int .i64 a0_1, .int .i64 a0_2, .int .i64 a0_3, (.slice (some ad368) l0_4.length c0_4), (.slice A0_5 l0_5.length c0_5), (.slice A0_6 l0_6.length c0_6)] 26 (0, 0))) ∧ Aside0 (Below w.heap.size w wc))
            case first =>
             have H := HC26.out
             clear HC26
             by_cases c27 : (rd l0_4 x39_3) = 0
             ·rw [if_pos c27] at H
              have c27b0 : ((rd l0_4 x39_3) == 0) = true := beq_iff_eq.mpr c27
              have c27b1 : ((rd l0_4 x39_3) != 0) = false := bne_eq_false_iff_eq.mpr c27
              clear c27
              (first | rw [c27b0] | (simp only [i64_w, i32_w]; rw [c27b0]) | rw [c27b1] | rw [c27b2] | rw [c27b3] | skip)
              have H' := Aside0.mk H
              clear H
              go_wp2
              (first | go_meet | (refine Met.intro ?_; go_step; (repeat apply Exists.intro); refine ⟨?rel, ?eqs⟩; case eqs => ((try rw [show (decide (x28_2 < (l0_4.length : Int))) = true from by assumption]); (try rw [show (decide (x28_2 < (l0_4.length : Int))) = false from by assumption]); (try rw [show (decide (x39_3 < (l0_4.length : Int))) = true from by assumption]); (try rw [show (decide (x39_3 < (l0_4.length : Int))) = false from by assumption]); (try rw [show ((rd l0_4 x39_3) == 0) = true from by assumption]); (try rw [show ((rd l0_4 x39_3) == 0) = false from by assumption]); (try rfl))))
              case rel => exact ⟨_, (true), Z10x3, H', ⟨by have := HJ2.out; have := HK2.out; have := HK3.out; first | omega | exact Nat.le_refl _⟩, ⟨Z10x1⟩, ⟨Z10x0⟩⟩
             ·rw [if_neg c27] at H
              have c27b0 : ((rd l0_4 x39_3) == 0) = false := beq_eq_false_iff_ne.mpr c27
              have c27b1 : ((rd l0_4 x39_3) != 0) = true := bne_iff_ne.mpr c27
              (first | rw [c27b0] | (simp only [i64_w, i32_w]; rw [c27b0]) | rw [c27b1] | rw [c27b2] | rw [c27b3] | skip)
              have H' := Aside0.mk H
              clear H
              go_wp2
              (first | go_meet | (refine Met.intro ?_; go_step; (repeat apply Exists.intro); refine ⟨?rel, ?eqs⟩; case eqs => ((try rw [show (decide (x28_2 < (l0_4.length : Int))) = true from by assumption]); (try rw [show (decide (x28_2 < (l0_4.length : Int))) = false from by assumption]); (try rw [show (decide (x39_3 < (l0_4.length : Int))) = true from by assumption]); (try rw [show (decide (x39_3 < (l0_4.length : Int))) = false from by assumption]); (try rw [show ((rd l0_4 x39_3) == 0) = true from by assumption]); (try rw [show ((rd l0_4 x39_3) == 0) = false from by assumption]); (try rw [show (decide ((wrap64 ((wrap64 (x9_3 + (rd l0_4 x39_3))) * 1000)) < (wrap64 (a1 * x6_2)))) = true from by assumption]); (try rw [show (decide ((wrap64 ((wrap64 (x9_3 + (rd l0_4 x39_3))) * 1000)) < (wrap64 (a1 * x6_2)))) = false from by assumption]); (try rfl))))
              case rel => exact ⟨_, (decide ((wrap64 ((wrap64 (x9_3 + (rd l0_4 x39_3))) * 1000)) < (wrap64 (a1 * x6_2)))), Z10x3, H', ⟨by have := HJ2.out; have := HK2.out; have := HK3.out; first | omega | exact Nat.le_refl _⟩, ⟨Z10x1⟩, ⟨Z10x0⟩⟩
            case rest =>
             clear HC26
             try clear c1
             try clear c2
             try clear p2
             try clear c3
             try clear p3
             try clear q3
             try clear hx3
             try clear c6
             try clear p6
             try clear c7
             try clear c7b0
             try clear c7b1
             try clear c7b2
             try clear c17
             try clear c19
             try clear c19b0
             try clear c20
             try clear c20b0
             try clear c21
             try clear c21b0
             try clear c23
             try clear c23b0
             try clear c24
             try clear c24b0
             try clear c25
             try clear c25b0
             try clear c27
             try clear c27b0
             try clear c27b1
             try clear c27b2
             try clear hcz10_0
             try clear hcz10_1
             try clear hcz10_2
             try clear hcz10_3
             try clear hcz10_4
             try clear hcz10_5
             try clear hcz10_6
             try clear hcz12_0
             try clear hcz12_1
             try clear hcz12_2
             try clear hcz12_3
             try clear hcz12_4
             try clear hcz12_5
             try clear hcz12_6
             try clear hcz14_0
             try clear hcz14_1
             try clear hcz14_2
             try clear hcz14_3
             try clear hcz14_4
             try clear hcz14_5
             try clear hcz14_6
             try clear hcz15_0
             try clear hcz15_1
             try clear hcz15_2
             try clear hcz15_3
             try clear hcz15_4
             try clear hcz15_5
             try clear hcz15_6
             try clear hcz18_0
             try clear hcz18_1
             try clear hcz18_2
             try clear hcz18_3
             try clear hcz18_4
             try clear hcz18_5
             try clear hcz18_6
             try clear hcz22_0
             try clear hcz22_1
             try clear hcz22_2
             try clear hcz22_3
             try clear hcz22_4
             try clear hcz22_5
             try clear hcz22_6
             try clear hcz8_0
             try clear hcz8_1
             try clear hcz8_2
             try clear hcz8_3
             try clear hcz8_4
             try clear hcz8_5
             try clear hcz8_6
             try clear hfz10_0
             try clear hfz10_1
             try clear hfz10_2
             try clear hfz10_3
             try clear hfz10_4
             try clear hfz10_5
             try clear hfz10_6
             try clear hfz12_0
             try clear hfz12_1
             try clear hfz12_2
             try clear hfz12_3
             try clear hfz12_4
             try clear hfz12_5
             try clear hfz12_6
             try clear hfz14_0
             try clear hfz14_1
             try clear hfz14_2
             try clear hfz14_3
             try clear hfz14_4
             try clear hfz14_5
             try clear hfz14_6
             try clear hfz15_0
             try clear hfz15_1
             try clear hfz15_2
             try clear hfz15_3
             try clear hfz15_4
             try clear hfz15_5
             try clear hfz15_6
             try clear hfz18_0
             try clear hfz18_1
             try clear hfz18_2
             try clear hfz18_3
             try clear hfz18_4
             try clear hfz18_5
             try clear hfz18_6
             try clear hfz22_0
             try clear hfz22_1
             try clear hfz22_2
             try clear hfz22_3
             try clear hfz22_4
             try clear hfz22_5
             try clear hfz22_6
             try clear hfz8_0
             try clear hfz8_1
             try clear hfz8_2
             try clear hfz8_3
             try clear hfz8_4
             try clear hfz8_5
             try clear hfz8_6
             try clear hx367_0
             try clear hx368_0
             try clear p2
             try clear p3
             try clear p367
             try clear p368
             try clear p6
             try clear q3
             try clear q367
             try clear q368
             obtain ⟨kq, x56_25, rfl, HA, HJ25, BK364, HB⟩ := hcut
             cases kq with
             | zero => exact absurd HA.out (by simp [impl_Quantile.j3])
             | succ kj25 =>
              have H := HA.out
              clear HA
              simp only [impl_Quantile.j3] at H
              by_cases c28 : x56_25 = true
              ·subst c28
               have H1 : (impl_Quantile.l1 kj25 a1 x6_2 (wrap64 (x9_3 + (rd l0_4 x39_3))) l0_4 (l0_4.length : Int) (wrap64 (x39_3 + 1))) = some (r1, r2) := by rw [if_pos rfl] at H; exact H
               clear H
               have H := H1
               clear H1
               have H' := Aside0.mk H
               clear H
               go_wp2
               go_roundg kj25
               case measure => have := HJ2.out; have := HK2.out; have := HK3.out; have := HJ25.out; omega
               case rel => exact ⟨((wrap64 (x9_3 + (rd l0_4 x39_3)))), (wrap64 (x39_3 + 1)), Z10x3, Z10x3, H', ⟨by have := HJ2.out; have := HK2.out; have := HK3.out; have := HJ25.out; omega⟩, ⟨Z10x1⟩, ⟨Z10x0⟩⟩
              ·replace c28 := Bool.eq_false_iff.mpr c28
               subst c28
               have H1 : (if x39_3 = 7 then ((impl_Low.f x39_3).bind fun t369 => (some (t369, 1000000))) else ((impl_Low.f x39_3).bind fun t370 => ((impl_Low.f (wrap64 (x39_3 + 1))).bind fun t371 => (some (t370, wrap64 (t371 - 1)))))) = some (r1, r2) := by rw [if_neg (show ¬ (false = true) by decide)] at H; exact H
               clear H
               have H := H1
               clear H1
               by_cases c29 : x39_3 = 7
               ·rw [if_pos c29] at H
                have c29b0 : (x39_3 == 7) = true := beq_iff_eq.mpr c29
                have c29b1 : (x39_3 != 7) = false := bne_eq_false_iff_eq.mpr c29
                clear c29
                replace H := Option.bind_eq_some_iff.mp H
                obtain ⟨t369, A300, H⟩ := H
                replace H : (some (t369, 1000000)) = some (r1, r2) := H
                have A30 := Aside0.mk A300
                clear A300
                simp only [Option.some.injEq, Prod.mk.injEq] at H
                obtain ⟨rfl, rfl⟩ := H
                go_wp2_with (first | ((with_reducible refine gate_callee (f := 76) rfl ?_); refine goesL_ (some 60) rfl rfl Try.func76 (by kernel_rfl) rfl #[.int .i64 x39_3] rfl Z10x2 ?_; (with_reducible refine (impl_Low.calls x39_3 t369 _ A30.out).mono ?_); rintro e w' ⟨rfl, ⟨nd, rfl⟩⟩; refine ⟨_, rfl, ?_⟩))
                go_ret2
                exact ⟨Z10x7, Z10x0⟩
               ·rw [if_neg c29] at H
                have c29b0 : (x39_3 == 7) = false := beq_eq_false_iff_ne.mpr c29
                have c29b1 : (x39_3 != 7) = true := bne_iff_ne.mpr c29
                replace H := Option.bind_eq_some_iff.mp H
                obtain ⟨t370, A310, H⟩ := H
                replace H : ((impl_Low.f (wrap64 (x39_3 + 1))).bind fun t371 => (some (t370, wrap64 (t371 - 1)))) = some (r1, r2) := H
                have A31 := Aside0.mk A310
                clear A310
                replace H := Option.bind_eq_some_iff.mp H
                obtain ⟨t371, A320, H⟩ := H
                replace H : (some (t370, wrap64 (t371 - 1))) = some (r1, r2) := H
                have A32 := Aside0.mk A320
                clear A320
                simp only [Option.some.injEq, Prod.mk.injEq] at H
                obtain ⟨rfl, rfl⟩ := H
                go_wp2_with (first | ((with_reducible refine gate_callee (f := 76) rfl ?_); refine goesL_ (some 62) rfl rfl Try.func76 (by kernel_rfl) rfl #[.int .i64 x39_3] rfl Z10x2 ?_; (with_reducible refine (impl_Low.calls x39_3 t370 _ A31.out).mono ?_); rintro e w' ⟨rfl, ⟨nd, rfl⟩⟩; refine ⟨_, rfl, ?_⟩) | ((with_reducible refine gate_callee (f := 76) rfl ?_); refine goesL_ (some 65) rfl rfl Try.func76 (by kernel_rfl) rfl #[.int .i64 (wrap64 (x39_3 + 1))] rfl Z10x2 ?_; (with_reducible refine (impl_Low.calls (wrap64 (x39_3 + 1)) t371 _ A32.out).mono ?_); rintro e w' ⟨rfl, ⟨nd, rfl⟩⟩; refine ⟨_, rfl, ?_⟩))
                go_ret2
                exact ⟨Z10x7, Z10x0⟩
           ·rw [if_neg c25] at H
            exact absurd H (by simp)
          ·rw [if_neg c24] at H
           exact absurd H (by simp)
         ·rw [if_neg c23] at H
          have c23b0 : decide (x39_3 < (l0_4.length : Int)) = false := decide_eq_false c23
          clear c23
          simp only [Option.some.injEq, Prod.mk.injEq] at H
          obtain ⟨rfl, rfl⟩ := H
          go_wp2
          go_ret2
          exact ⟨Z10x7, Z10x0⟩

end Go.Proofs.Ytfknjoebomicnaa.PFnQuantiles
