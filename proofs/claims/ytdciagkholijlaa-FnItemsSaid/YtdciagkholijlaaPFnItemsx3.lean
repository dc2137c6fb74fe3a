-- Written by this session's changed copy of the kit's printer (wip/patch_print.py): not the kit's own print.
import Derived.Test.YtdciagkholijlaaPFnItemsx0
import Derived.Test.YtdciagkholijlaaPFnItemsx2
namespace Go.Proofs.Ytdciagkholijlaa.PFnItems
open Go.RowKit Go.Proofs.YtdciagkholijlaaW.PrintWords Go.Proofs.YtdciagkholijlaaW.PrintLast Go.Proofs.YtdciagkholijlaaW.PrintMore
attribute [local go_sem] max2_int min2_int max_two min_two max_three min_three max_four min_four   -- for this text's walks alone
set_option linter.unusedVariables false
set_option linter.unusedSimpArgs false
theorem Z3x0 {p : Prop} (h : p := by repeat (first | (with_reducible first | exact HB.out | apply below_alloc | apply pw_below_drewN | apply below_drew1 | refine below_set ?_ GE152.out) | exact HB.out)) : p := h
theorem Z3x1 {p : Prop} (h : p := by (try simp only [List.map_toArray, List.map_cons, List.map_nil]); first | done | rfl | (simp only [List.length_drop, List.length_take]; rfl)) : p := h
theorem Z3x2 {p : Prop} (h : p := by (with_reducible repeat (first | refine blk_drewN ?_ _ | refine blk_drew ?_ | refine blk_alloc ?_ _)); exact BK152.out) : p := h
theorem Z3x3 {p : Prop} (h : p := by first | rfl | (simp; done) | (simp [*]; done)) : p := h
theorem Z3x4 {p : Prop} (h : p := by repeat (first | exact (Kd.C_below HR0_4.out HB.out) | (with_reducible refine Kd.C_alloc ?_ _) | (with_reducible refine Kd.C_drewN ?_ _) | (with_reducible refine Kd.C_drew ?_))) : p := h
theorem Z3x5 {p : Prop} (h : p := by first | rfl | (simp [errW_none, errW_some] <;> rfl) | (simp [*, errW_none, errW_some] <;> rfl)) : p := h
theorem Z3x6 {p : Prop} (h : p := by repeat (first | exact (Kd.C_below HR0_5.out Z3x0) | (with_reducible refine Kd.C_alloc ?_ _) | (with_reducible refine Kd.C_drewN ?_ _) | (with_reducible refine Kd.C_drew ?_))) : p := h
theorem Z3x7 {p : Prop} (h : p := by repeat (first | (with_reducible first | exact HB.out | apply below_alloc | apply pw_below_drewN | apply below_drew1) | exact HB.out)) : p := h

mutual
def spec_SketchOk.j0 : Nat → Bool → Int → Int → Int → Int → List Int → List Int → List (List Int) → Option (Bool)
 | 0, _, _, _, _, _, _, _, _ => none
 | k + 1, x38, x153000, x153001, x153002, x153003, x153004, x153005, x153006 => if x38 = true then (some false) else (if x153000 = 0 then (if x153001 = 0 then (spec_SketchOk.j1 k (x153000 == 0) (x153003 != 0) x153000 x153001 x153002 x153003 x153004 x153005 x153006) else (spec_SketchOk.j1 k (x153000 == 0) true x153000 x153001 x153002 x153003 x153004 x153005 x153006)) else (spec_SketchOk.j1 k (x153000 == 0) false x153000 x153001 x153002 x153003 x153004 x153005 x153006))
def spec_SketchOk.j1 : Nat → Bool → Bool → Int → Int → Int → Int → List Int → List Int → List (List Int) → Option (Bool)
 | 0, _, _, _, _, _, _, _, _, _ => none
 | k + 1, x3, x52, x153000, x153001, x153002, x153003, x153004, x153005, x153006 => if x52 = true then (some false) else ((spec_l3List.f k x153004 8 1000000000 x3).bind fun t157 => (if t157 = true then ((spec_l3List.f k x153005 8 17 x3).bind fun t158 => (if t158 = true then (if 0 < (x153006.length : Int) then ((spec_l3List.f k (rd_L2 x153006 0) 4 1000000000 x3).bind fun t160 => (if t160 = true then (if 1 < (x153006.length : Int) then ((spec_l3List.f k (rd_L2 x153006 1) 4 1000000000 x3).bind fun t162 => (some t162)) else (none)) else (some false))) else (none)) else (some false))) else (some false)))
end
def spec_SketchOk.f (k : Nat) (a0_0 : Int) (a0_1 : Int) (a0_2 : Int) (a0_3 : Int) (l0_4 : List Int) (l0_5 : List Int) (l0_6 : List (List Int)) : Option (Bool) := (spec_l1In.f a0_0 0 1000000000).bind fun t153 => (if t153 = true then ((spec_l1In.f a0_1 0 1000000000).bind fun t154 => (if t154 = true then ((spec_l1In.f a0_2 0 1000000).bind fun t155 => (if t155 = true then ((spec_l1In.f a0_3 0 1000000).bind fun t156 => (if t156 = true then (if a0_2 > a0_3 then (spec_SketchOk.j0 k true a0_0 a0_1 a0_2 a0_3 l0_4 l0_5 l0_6) else (spec_SketchOk.j0 k ((l0_6.length : Int) != 2) a0_0 a0_1 a0_2 a0_3 l0_4 l0_5 l0_6)) else (spec_SketchOk.j0 k true a0_0 a0_1 a0_2 a0_3 l0_4 l0_5 l0_6))) else (spec_SketchOk.j0 k true a0_0 a0_1 a0_2 a0_3 l0_4 l0_5 l0_6))) else (spec_SketchOk.j0 k true a0_0 a0_1 a0_2 a0_3 l0_4 l0_5 l0_6))) else (spec_SketchOk.j0 k true a0_0 a0_1 a0_2 a0_3 l0_4 l0_5 l0_6))
theorem spec_SketchOk.mono_l : ∀ k, (∀ y0 y1 y2 y3 y4 y5 y6 y7, LeO (spec_SketchOk.j0 k y0 y1 y2 y3 y4 y5 y6 y7) (spec_SketchOk.j0 (k + 1) y0 y1 y2 y3 y4 y5 y6 y7)) ∧ (∀ y0 y1 y2 y3 y4 y5 y6 y7 y8, LeO (spec_SketchOk.j1 k y0 y1 y2 y3 y4 y5 y6 y7 y8) (spec_SketchOk.j1 (k + 1) y0 y1 y2 y3 y4 y5 y6 y7 y8))
 | 0 => ⟨fun _ _ _ _ _ _ _ _ r h => by simp [spec_SketchOk.j0] at h, fun _ _ _ _ _ _ _ _ _ r h => by simp [spec_SketchOk.j1] at h⟩
 | k + 1 => by
  obtain ⟨ih0, ih1⟩ := spec_SketchOk.mono_l k
  refine ⟨?_, ?_⟩
  ·intro y0 y1 y2 y3 y4 y5 y6 y7
   unfold spec_SketchOk.j0
   repeat' first
   | (with_reducible exact ih0 _ _ _ _ _ _ _ _)
   | (with_reducible exact ih1 _ _ _ _ _ _ _ _ _)
   | (with_reducible exact spec_l3List.mono _ _ _ _ _)
   | (with_reducible exact LeO.refl _)
   | (with_reducible exact LeO.none _)
   | (with_reducible refine LeO.ite ?_ ?_)
   | (with_reducible refine LeO.bind ?_ (fun _ => ?_))
   | exact ih0 _ _ _ _ _ _ _ _
   | exact ih1 _ _ _ _ _ _ _ _ _
   | exact spec_l3List.mono _ _ _ _ _
   | exact LeO.none _
   | refine LeO.ite ?_ ?_
   | refine LeO.bind ?_ (fun _ => ?_)
  ·intro y0 y1 y2 y3 y4 y5 y6 y7 y8
   unfold spec_SketchOk.j1
   repeat' first
   | (with_reducible exact ih0 _ _ _ _ _ _ _ _)
   | (with_reducible exact ih1 _ _ _ _ _ _ _ _ _)
   | (with_reducible exact spec_l3List.mono _ _ _ _ _)
   | (with_reducible exact LeO.refl _)
   | (with_reducible exact LeO.none _)
   | (with_reducible refine LeO.ite ?_ ?_)
   | (with_reducible refine LeO.bind ?_ (fun _ => ?_))
   | exact ih0 _ _ _ _ _ _ _ _
   | exact ih1 _ _ _ _ _ _ _ _ _
   | exact spec_l3List.mono _ _ _ _ _
   | exact LeO.none _
   | refine LeO.ite ?_ ?_
   | refine LeO.bind ?_ (fun _ => ?_)
theorem spec_SketchOk.mono : ∀ a0 a1 a2 a3 a4 a5 a6 k, LeO (spec_SketchOk.f k a0 a1 a2 a3 a4 a5 a6) (spec_SketchOk.f (k + 1) a0 a1 a2 a3 a4 a5 a6) := by
 intro a0 a1 a2 a3 a4 a5 a6 k
 obtain ⟨ih0, ih1⟩ := spec_SketchOk.mono_l k
 unfold spec_SketchOk.f
 repeat' first
   | (with_reducible exact ih0 _ _ _ _ _ _ _ _)
   | (with_reducible exact ih1 _ _ _ _ _ _ _ _ _)
   | (with_reducible exact spec_l3List.mono _ _ _ _ _)
   | (with_reducible exact LeO.refl _)
   | (with_reducible exact LeO.none _)
   | (with_reducible refine LeO.ite ?_ ?_)
   | (with_reducible refine LeO.bind ?_ (fun _ => ?_))
   | exact ih0 _ _ _ _ _ _ _ _
   | exact ih1 _ _ _ _ _ _ _ _ _
   | exact spec_l3List.mono _ _ _ _ _
   | exact LeO.none _
   | refine LeO.ite ?_ ?_
   | refine LeO.bind ?_ (fun _ => ?_)
set_option maxHeartbeats 8000000 in
set_option maxRecDepth 100000 in
theorem spec_SketchOk.calls (k : Nat) (a0_0 : Int) (a0_1 : Int) (a0_2 : Int) (a0_3 : Int) (A0_4 : Option Addr) (c0_4 : Nat) (l0_4 : List Int) (A0_5 : Option Addr) (c0_5 : Nat) (l0_5 : List Int) (A0_6 : Option Addr) (c0_6 : Nat) (l0_6 : List (List Int)) (r : Bool) (w : World) (hr0_4 : Kd.C (Kd.int .i64) w A0_4 l0_4.length l0_4) (hc0_4 : l0_4.length ≤ c0_4) (hr0_5 : Kd.C (Kd.int .i64) w A0_5 l0_5.length l0_5) (hc0_5 : l0_5.length ≤ c0_5) (hr0_6 : Kd.C (Kd.slice 3 (Kd.int .i64)) w A0_6 l0_6.length l0_6) (hc0_6 : l0_6.length ≤ c0_6) (h : spec_SketchOk.f k a0_0 a0_1 a0_2 a0_3 l0_4 l0_5 l0_6 = some r) :
  Calls Try.prog 73 #[.agg #[.int .i64 a0_0, .int .i64 a0_1, .int .i64 a0_2, .int .i64 a0_3, .slice A0_4 l0_4.length c0_4, .slice A0_5 l0_5.length c0_5, .slice A0_6 l0_6.length c0_6]] w fun e w' => e = .returned (.bool r) ∧ Below w.heap.size w w' := by
 have hu27 := Try.underlying27
 have HR0_4 := Aside0.mk hr0_4
 have HC0_4 := Aside0.mk hc0_4
 clear hr0_4 hc0_4
 have HR0_5 := Aside0.mk hr0_5
 have HC0_5 := Aside0.mk hc0_5
 clear hr0_5 hc0_5
 have HR0_6 := Aside0.mk hr0_6
 have HC0_6 := Aside0.mk hc0_6
 clear hr0_6 hc0_6
 have HB := Aside0.mk (Below.refl w.heap.size w)
 have H : ((spec_l1In.f a0_0 0 1000000000).bind fun t153 => (if t153 = true then ((spec_l1In.f a0_1 0 1000000000).bind fun t154 => (if t154 = true then ((spec_l1In.f a0_2 0 1000000).bind fun t155 => (if t155 = true then ((spec_l1In.f a0_3 0 1000000).bind fun t156 => (if t156 = true then (if a0_2 > a0_3 then (spec_SketchOk.j0 k true a0_0 a0_1 a0_2 a0_3 l0_4 l0_5 l0_6) else (spec_SketchOk.j0 k ((l0_6.length : Int) != 2) a0_0 a0_1 a0_2 a0_3 l0_4 l0_5 l0_6)) else (spec_SketchOk.j0 k true a0_0 a0_1 a0_2 a0_3 l0_4 l0_5 l0_6))) else (spec_SketchOk.j0 k true a0_0 a0_1 a0_2 a0_3 l0_4 l0_5 l0_6))) else (spec_SketchOk.j0 k true a0_0 a0_1 a0_2 a0_3 l0_4 l0_5 l0_6))) else (spec_SketchOk.j0 k true a0_0 a0_1 a0_2 a0_3 l0_4 l0_5 l0_6))) = some r := h
 clear h
 have HC2 := Aside0.mk H
 clear H
 go_enter Try.func73, Try.ntmps73
 go_upto_region 1 with (first | ((with_reducible refine gate_dst (N := 1) rfl ?_); (try (refine gate_guard (by rfl) ?_; dsimp only)); refine box_event ?hg (N := 1) ?hd (cs := #[.int .i64 a0_0, .int .i64 a0_1, .int .i64 a0_2, .int .i64 a0_3, .slice A0_4 l0_4.length c0_4, .slice A0_5 l0_5.length c0_5, .slice A0_6 l0_6.length c0_6]) (t := 27) ?hr ?_; (case hd => rfl); (case hg => rfl); (case hr => first | (go_simp; done) | (go_simp; rfl)); intro gb152 hg w3 hbox hb; have n0_ := Aside0.mk (below_step Z3x7 hb); have n1_ := Aside0.mk (hbox); have n2_ := Aside0.mk ((by rw [hg]; exact (below_size Z3x7) : w.heap.size ≤ gb152)); have n3_ := Aside0.mk ((by rw [hg]; exact (below_size Z3x7) : w.heap.size ≤ gb152)); clear HB; have HB := n0_; have BK152 := n1_; have GW152 := n2_; have GE152 := n3_; clear n0_ n1_ n2_ n3_; clear hb hbox hg))
 (try simp only [Act.put, List.setIfInBounds_toArray, List.set_cons_zero, List.set_cons_succ])
 go_cut [38] (fun v38 wc => ∃ (kq : Nat) (x38_1 : Bool), v38 = .bool x38_1 ∧ Aside0 (spec_SketchOk.j0 kq x38_1 a0_0 a0_1 a0_2 a0_3 l0_4 l0_5 l0_6 = some r) ∧ Aside0 (kq ≤ k) ∧ Aside0 (wc.heap[gb152]? = some (.cells #[.int .i64 a0_0, .int .i64 a0_1, .int .i64 a0_2, .int .i64 a0_3, (.slice A0_4 l0_4.length c0_4), (.slice A0_5 l0_5.length c0_5), (.slice A0_6 l0_6.length c0_6)] 27 (0, 0))) ∧ Aside0 (Below w.heap.size w wc))
 case first =>
  have H := HC2.out
  clear HC2
  replace H := Option.bind_eq_some_iff.mp H
  obtain ⟨t153, A40, H⟩ := H
  replace H : (if t153 = true then ((spec_l1In.f a0_1 0 1000000000).bind fun t154 => (if t154 = true then ((spec_l1In.f a0_2 0 1000000).bind fun t155 => (if t155 = true then ((spec_l1In.f a0_3 0 1000000).bind fun t156 => (if t156 = true then (if a0_2 > a0_3 then (spec_SketchOk.j0 k true a0_0 a0_1 a0_2 a0_3 l0_4 l0_5 l0_6) else (spec_SketchOk.j0 k ((l0_6.length : Int) != 2) a0_0 a0_1 a0_2 a0_3 l0_4 l0_5 l0_6)) else (spec_SketchOk.j0 k true a0_0 a0_1 a0_2 a0_3 l0_4 l0_5 l0_6))) else (spec_SketchOk.j0 k true a0_0 a0_1 a0_2 a0_3 l0_4 l0_5 l0_6))) else (spec_SketchOk.j0 k true a0_0 a0_1 a0_2 a0_3 l0_4 l0_5 l0_6))) else (spec_SketchOk.j0 k true a0_0 a0_1 a0_2 a0_3 l0_4 l0_5 l0_6)) = some r := H
  have A4 := Aside0.mk A40
  clear A40
  by_cases c5 : t153 = true
  ·subst c5
   have H1 : ((spec_l1In.f a0_1 0 1000000000).bind fun t154 => (if t154 = true then ((spec_l1In.f a0_2 0 1000000).bind fun t155 => (if t155 = true then ((spec_l1In.f a0_3 0 1000000).bind fun t156 => (if t156 = true then (if a0_2 > a0_3 then (spec_SketchOk.j0 k true a0_0 a0_1 a0_2 a0_3 l0_4 l0_5 l0_6) else (spec_SketchOk.j0 k ((l0_6.length : Int) != 2) a0_0 a0_1 a0_2 a0_3 l0_4 l0_5 l0_6)) else (spec_SketchOk.j0 k true a0_0 a0_1 a0_2 a0_3 l0_4 l0_5 l0_6))) else (spec_SketchOk.j0 k true a0_0 a0_1 a0_2 a0_3 l0_4 l0_5 l0_6))) else (spec_SketchOk.j0 k true a0_0 a0_1 a0_2 a0_3 l0_4 l0_5 l0_6))) = some r := by rw [if_pos rfl] at H; exact H
   clear H
   have H := H1
   clear H1
   replace H := Option.bind_eq_some_iff.mp H
   obtain ⟨t154, A60, H⟩ := H
   replace H : (if t154 = true then ((spec_l1In.f a0_2 0 1000000).bind fun t155 => (if t155 = true then ((spec_l1In.f a0_3 0 1000000).bind fun t156 => (if t156 = true then (if a0_2 > a0_3 then (spec_SketchOk.j0 k true a0_0 a0_1 a0_2 a0_3 l0_4 l0_5 l0_6) else (spec_SketchOk.j0 k ((l0_6.length : Int) != 2) a0_0 a0_1 a0_2 a0_3 l0_4 l0_5 l0_6)) else (spec_SketchOk.j0 k true a0_0 a0_1 a0_2 a0_3 l0_4 l0_5 l0_6))) else (spec_SketchOk.j0 k true a0_0 a0_1 a0_2 a0_3 l0_4 l0_5 l0_6))) else (spec_SketchOk.j0 k true a0_0 a0_1 a0_2 a0_3 l0_4 l0_5 l0_6)) = some r := H
   have A6 := Aside0.mk A60
   clear A60
   by_cases c7 : t154 = true
   ·subst c7
    have H1 : ((spec_l1In.f a0_2 0 1000000).bind fun t155 => (if t155 = true then ((spec_l1In.f a0_3 0 1000000).bind fun t156 => (if t156 = true then (if a0_2 > a0_3 then (spec_SketchOk.j0 k true a0_0 a0_1 a0_2 a0_3 l0_4 l0_5 l0_6) else (spec_SketchOk.j0 k ((l0_6.length : Int) != 2) a0_0 a0_1 a0_2 a0_3 l0_4 l0_5 l0_6)) else (spec_SketchOk.j0 k true a0_0 a0_1 a0_2 a0_3 l0_4 l0_5 l0_6))) else (spec_SketchOk.j0 k true a0_0 a0_1 a0_2 a0_3 l0_4 l0_5 l0_6))) = some r := by rw [if_pos rfl] at H; exact H
    clear H;have H := H1;clear H1;replace H := Option.bind_eq_some_iff.mp H;obtain ⟨t155, A80, H⟩ := H;replace H : (if t155 = true then ((spec_l1In.f a0_3 0 1000000).bind fun t156 => (if t156 = true then (if a0_2 > a0_3 then (spec_SketchOk.j0 k true a0_0 a0_1 a0_2 a0_3 l0_4 l0_5 l0_6) else (spec_SketchOk.j0 k ((l0_6.length : Int) != 2) a0_0 a0_1 a0_2 a0_3 l0_4 l0_5 l0_6)) else (spec_SketchOk.j0 k true a0_0 a0_1 a0_2 a0_3 l0_4 l0_5 l0_6))) else (spec_SketchOk.j0 k true a0_0 a0_1 a0_2 a0_3 l0_4 l0_5 l0_6)) = some r := H;have A8 := Aside0.mk A80;clear A80
    by_cases c9 : t155 = true
    ·subst c9
     have H1 : ((spec_l1In.f a0_3 0 1000000).bind fun t156 => (if t156 = true then (if a0_2 > a0_3 then (spec_SketchOk.j0 k true a0_0 a0_1 a0_2 a0_3 l0_4 l0_5 l0_6) else (spec_SketchOk.j0 k ((l0_6.length : Int) != 2) a0_0 a0_1 a0_2 a0_3 l0_4 l0_5 l0_6)) else (spec_SketchOk.j0 k true a0_0 a0_1 a0_2 a0_3 l0_4 l0_5 l0_6))) = some r := by rw [if_pos rfl] at H; exact H
     clear H;have H := H1;clear H1;replace H := Option.bind_eq_some_iff.mp H;obtain ⟨t156, A100, H⟩ := H;replace H : (if t156 = true then (if a0_2 > a0_3 then (spec_SketchOk.j0 k true a0_0 a0_1 a0_2 a0_3 l0_4 l0_5 l0_6) else (spec_SketchOk.j0 k ((l0_6.length : Int) != 2) a0_0 a0_1 a0_2 a0_3 l0_4 l0_5 l0_6)) else (spec_SketchOk.j0 k true a0_0 a0_1 a0_2 a0_3 l0_4 l0_5 l0_6)) = some r := H;have A10 := Aside0.mk A100;clear A100
     by_cases c11 : t156 = true
     ·subst c11
      have H1 : (if a0_2 > a0_3 then (spec_SketchOk.j0 k true a0_0 a0_1 a0_2 a0_3 l0_4 l0_5 l0_6) else (spec_SketchOk.j0 k ((l0_6.length : Int) != 2) a0_0 a0_1 a0_2 a0_3 l0_4 l0_5 l0_6)) = some r := by rw [if_pos rfl] at H; exact H
      clear H;have H := H1;clear H1
      by_cases c12 : a0_2 > a0_3
      ·rw [if_pos c12] at H
       have c12b0 : decide (a0_3 < a0_2) = true := decide_eq_true c12;clear c12
       (first | rw [c12b0] | (simp only [i64_w, i32_w]; rw [c12b0]) | rw [c12b1] | rw [c12b2] | rw [c12b3] | skip)
       have H' := Aside0.mk H;clear H;obtain ⟨hcz13_0, hcz13_1, hcz13_2, hcz13_3, hcz13_4, hcz13_5, hcz13_6⟩ := cz7 BK152.out;obtain ⟨hfz13_0, hfz13_1, hfz13_2, hfz13_3, hfz13_4, hfz13_5, hfz13_6⟩ := fz7 BK152.out
       go_wp2_with (first | ((with_reducible refine gate_callee (f := 42) rfl ?_); refine goesL_ (some 6) rfl rfl Try.func42 (by kernel_rfl) rfl #[.int .i64 a0_0, .int .i64 0, .int .i64 1000000000] rfl Z3x1 ?_; (with_reducible refine (spec_l1In.calls a0_0 0 1000000000 true _ A4.out).mono ?_); rintro e w' ⟨rfl, ⟨nd, rfl⟩⟩; refine ⟨_, rfl, ?_⟩) | (go_at_call 42; (with_reducible refine (spec_l1In.calls a0_1 0 1000000000 true _ A6.out).mono ?_); rintro e w' ⟨rfl, ⟨nd, rfl⟩⟩) | (go_at_call 42; (with_reducible refine (spec_l1In.calls a0_2 0 1000000 true _ A8.out).mono ?_); rintro e w' ⟨rfl, ⟨nd, rfl⟩⟩) | (go_at_call 42; (with_reducible refine (spec_l1In.calls a0_3 0 1000000 true _ A10.out).mono ?_); rintro e w' ⟨rfl, ⟨nd, rfl⟩⟩))
       (first | go_meet | (refine Met.intro ?_; go_step; (repeat apply Exists.intro); refine ⟨?rel, ?eqs⟩; case eqs => ((try rw [show (!true) = true from by assumption]); (try rw [show (!true) = false from by assumption]); (try rw [show (decide (a0_2 > a0_3)) = true from by assumption]); (try rw [show (decide (a0_2 > a0_3)) = false from by assumption]); (try rfl))))
       case rel => exact ⟨_, (true), Z3x3, H', ⟨by first | omega | exact Nat.le_refl _⟩, ⟨Z3x2⟩, ⟨Z3x0⟩⟩
      ·rw [if_neg c12] at H
       have c12b0 : decide (a0_3 < a0_2) = false := decide_eq_false c12;clear c12
       (first | rw [c12b0] | (simp only [i64_w, i32_w]; rw [c12b0]) | rw [c12b1] | rw [c12b2] | rw [c12b3] | skip)
       have H' := Aside0.mk H;clear H;obtain ⟨hcz14_0, hcz14_1, hcz14_2, hcz14_3, hcz14_4, hcz14_5, hcz14_6⟩ := cz7 BK152.out;obtain ⟨hfz14_0, hfz14_1, hfz14_2, hfz14_3, hfz14_4, hfz14_5, hfz14_6⟩ := fz7 BK152.out
       go_wp2_with (first | ((with_reducible refine gate_callee (f := 42) rfl ?_); refine goesL_ (some 6) rfl rfl Try.func42 (by kernel_rfl) rfl #[.int .i64 a0_0, .int .i64 0, .int .i64 1000000000] rfl Z3x1 ?_; (with_reducible refine (spec_l1In.calls a0_0 0 1000000000 true _ A4.out).mono ?_); rintro e w' ⟨rfl, ⟨nd, rfl⟩⟩; refine ⟨_, rfl, ?_⟩) | (go_at_call 42; (with_reducible refine (spec_l1In.calls a0_1 0 1000000000 true _ A6.out).mono ?_); rintro e w' ⟨rfl, ⟨nd, rfl⟩⟩) | (go_at_call 42; (with_reducible refine (spec_l1In.calls a0_2 0 1000000 true _ A8.out).mono ?_); rintro e w' ⟨rfl, ⟨nd, rfl⟩⟩) | (go_at_call 42; (with_reducible refine (spec_l1In.calls a0_3 0 1000000 true _ A10.out).mono ?_); rintro e w' ⟨rfl, ⟨nd, rfl⟩⟩))
       (first | go_meet | (refine Met.intro ?_; go_step; (repeat apply Exists.intro); refine ⟨?rel, ?eqs⟩; case eqs => ((try rw [show (!true) = true from by assumption]); (try rw [show (!true) = false from by assumption]); (try rw [show (decide (a0_2 > a0_3)) = true from by assumption]); (try rw [show (decide (a0_2 > a0_3)) = false from by assumption]); (try rw [show ((l0_6.length : Int) != 2) = true from by assumption]); (try rw [show ((l0_6.length : Int) != 2) = false from by assumption]); (try rfl))))
       case rel => exact ⟨_, (((l0_6.length : Int) != 2)), Z3x3, H', ⟨by first | omega | exact Nat.le_refl _⟩, ⟨Z3x2⟩, ⟨Z3x0⟩⟩
     ·replace c11 := Bool.eq_false_iff.mpr c11
      subst c11
      have H1 : (spec_SketchOk.j0 k true a0_0 a0_1 a0_2 a0_3 l0_4 l0_5 l0_6) = some r := by rw [if_neg (show ¬ (false = true) by decide)] at H; exact H
      clear H;have H := H1;clear H1;have H' := Aside0.mk H;clear H;obtain ⟨hcz15_0, hcz15_1, hcz15_2, hcz15_3, hcz15_4, hcz15_5, hcz15_6⟩ := cz7 BK152.out;obtain ⟨hfz15_0, hfz15_1, hfz15_2, hfz15_3, hfz15_4, hfz15_5, hfz15_6⟩ := fz7 BK152.out
      go_wp2_with (first | ((with_reducible refine gate_callee (f := 42) rfl ?_); refine goesL_ (some 6) rfl rfl Try.func42 (by kernel_rfl) rfl #[.int .i64 a0_0, .int .i64 0, .int .i64 1000000000] rfl Z3x1 ?_; (with_reducible refine (spec_l1In.calls a0_0 0 1000000000 true _ A4.out).mono ?_); rintro e w' ⟨rfl, ⟨nd, rfl⟩⟩; refine ⟨_, rfl, ?_⟩) | (go_at_call 42; (with_reducible refine (spec_l1In.calls a0_1 0 1000000000 true _ A6.out).mono ?_); rintro e w' ⟨rfl, ⟨nd, rfl⟩⟩) | (go_at_call 42; (with_reducible refine (spec_l1In.calls a0_2 0 1000000 true _ A8.out).mono ?_); rintro e w' ⟨rfl, ⟨nd, rfl⟩⟩) | (go_at_call 42; (with_reducible refine (spec_l1In.calls a0_3 0 1000000 false _ A10.out).mono ?_); rintro e w' ⟨rfl, ⟨nd, rfl⟩⟩))
      (first | go_meet | (refine Met.intro ?_; go_step; (repeat apply Exists.intro); refine ⟨?rel, ?eqs⟩; case eqs => ((try rw [show (!true) = true from by assumption]); (try rw [show (!true) = false from by assumption]); (try rw [show (!false) = true from by assumption]); (try rw [show (!false) = false from by assumption]); (try rfl))))
      case rel => exact ⟨_, (true), Z3x3, H', ⟨by first | omega | exact Nat.le_refl _⟩, ⟨Z3x2⟩, ⟨Z3x0⟩⟩
    ·replace c9 := Bool.eq_false_iff.mpr c9
     subst c9
     have H1 : (spec_SketchOk.j0 k true a0_0 a0_1 a0_2 a0_3 l0_4 l0_5 l0_6) = some r := by rw [if_neg (show ¬ (false = true) by decide)] at H; exact H
     clear H;have H := H1;clear H1;have H' := Aside0.mk H;clear H;obtain ⟨hcz16_0, hcz16_1, hcz16_2, hcz16_3, hcz16_4, hcz16_5, hcz16_6⟩ := cz7 BK152.out;obtain ⟨hfz16_0, hfz16_1, hfz16_2, hfz16_3, hfz16_4, hfz16_5, hfz16_6⟩ := fz7 BK152.out
     go_wp2_with (first | ((with_reducible refine gate_callee (f := 42) rfl ?_); refine goesL_ (some 6) rfl rfl Try.func42 (by kernel_rfl) rfl #[.int .i64 a0_0, .int .i64 0, .int .i64 1000000000] rfl Z3x1 ?_; (with_reducible refine (spec_l1In.calls a0_0 0 1000000000 true _ A4.out).mono ?_); rintro e w' ⟨rfl, ⟨nd, rfl⟩⟩; refine ⟨_, rfl, ?_⟩) | (go_at_call 42; (with_reducible refine (spec_l1In.calls a0_1 0 1000000000 true _ A6.out).mono ?_); rintro e w' ⟨rfl, ⟨nd, rfl⟩⟩) | (go_at_call 42; (with_reducible refine (spec_l1In.calls a0_2 0 1000000 false _ A8.out).mono ?_); rintro e w' ⟨rfl, ⟨nd, rfl⟩⟩))
     (first | go_meet | (refine Met.intro ?_; go_step; (repeat apply Exists.intro); refine ⟨?rel, ?eqs⟩; case eqs => ((try rw [show (!true) = true from by assumption]); (try rw [show (!true) = false from by assumption]); (try rw [show (!false) = true from by assumption]); (try rw [show (!false) = false from by assumption]); (try rfl))))
     case rel => exact ⟨_, (true), Z3x3, H', ⟨by first | omega | exact Nat.le_refl _⟩, ⟨Z3x2⟩, ⟨Z3x0⟩⟩
   ·replace c7 := Bool.eq_false_iff.mpr c7
    subst c7
    have H1 : (spec_SketchOk.j0 k true a0_0 a0_1 a0_2 a0_3 l0_4 l0_5 l0_6) = some r := by rw [if_neg (show ¬ (false = true) by decide)] at H; exact H
    clear H;have H := H1;clear H1;have H' := Aside0.mk H;clear H;obtain ⟨hcz17_0, hcz17_1, hcz17_2, hcz17_3, hcz17_4, hcz17_5, hcz17_6⟩ := cz7 BK152.out;obtain ⟨hfz17_0, hfz17_1, hfz17_2, hfz17_3, hfz17_4, hfz17_5, hfz17_6⟩ := fz7 BK152.out
    go_wp2_with (first | ((with_reducible refine gate_callee (f := 42) rfl ?_); refine goesL_ (some 6) rfl rfl Try.func42 (by kernel_rfl) rfl #[.int .i64 a0_0, .int .i64 0, .int .i64 1000000000] rfl Z3x1 ?_; (with_reducible refine (spec_l1In.calls a0_0 0 1000000000 true _ A4.out).mono ?_); rintro e w' ⟨rfl, ⟨nd, rfl⟩⟩; refine ⟨_, rfl, ?_⟩) | (go_at_call 42; (with_reducible refine (spec_l1In.calls a0_1 0 1000000000 false _ A6.out).mono ?_); rintro e w' ⟨rfl, ⟨nd, rfl⟩⟩))
    (first | go_meet | (refine Met.intro ?_; go_step; (repeat apply Exists.intro); refine ⟨?rel, ?eqs⟩; case eqs => ((try rw [show (!true) = true from by assumption]); (try rw [show (!true) = false from by assumption]); (try rw [show (!false) = true from by assumption]); (try rw [show (!false) = false from by assumption]); (try rfl))))
    case rel => exact ⟨_, (true), Z3x3, H', ⟨by first | omega | exact Nat.le_refl _⟩, ⟨Z3x2⟩, ⟨Z3x0⟩⟩
  ·replace c5 := Bool.eq_false_iff.mpr c5
   subst c5
   have H1 : (spec_SketchOk.j0 k true a0_0 a0_1 a0_2 a0_3 l0_4 l0_5 l0_6) = some r := by rw [if_neg (show ¬ (false = true) by decide)] at H; exact H
   clear H
   have H := H1
   clear H1
   have H' := Aside0.mk H
   clear H
   obtain ⟨hcz18_0, hcz18_1, hcz18_2, hcz18_3, hcz18_4, hcz18_5, hcz18_6⟩ := cz7 BK152.out
   obtain ⟨hfz18_0, hfz18_1, hfz18_2, hfz18_3, hfz18_4, hfz18_5, hfz18_6⟩ := fz7 BK152.out
   go_wp2_with (first | ((with_reducible refine gate_callee (f := 42) rfl ?_); refine goesL_ (some 6) rfl rfl Try.func42 (by kernel_rfl) rfl #[.int .i64 a0_0, .int .i64 0, .int .i64 1000000000] rfl Z3x1 ?_; (with_reducible refine (spec_l1In.calls a0_0 0 1000000000 false _ A4.out).mono ?_); rintro e w' ⟨rfl, ⟨nd, rfl⟩⟩; refine ⟨_, rfl, ?_⟩))
   (first | go_meet | (refine Met.intro ?_; go_step; (repeat apply Exists.intro); refine ⟨?rel, ?eqs⟩; case eqs => ((try rw [show (!false) = true from by assumption]); (try rw [show (!false) = false from by assumption]); (try rfl))))
   case rel => exact ⟨_, (true), Z3x3, H', ⟨by first | omega | exact Nat.le_refl _⟩, ⟨Z3x2⟩, ⟨Z3x0⟩⟩
 case rest =>
  clear HC2
  try clear c1
  try clear p2
  try clear c4
  try clear c5
  try clear c7
  try clear c9
  try clear c11
  try clear c12
  try clear c12b0
  try clear c12b1
  try clear c12b2
  try clear hcz13_0 hcz13_1 hcz13_2 hcz13_3 hcz13_4 hcz13_5 hcz13_6
  try clear hcz14_0 hcz14_1 hcz14_2 hcz14_3 hcz14_4 hcz14_5 hcz14_6
  try clear hcz15_0 hcz15_1 hcz15_2 hcz15_3 hcz15_4 hcz15_5 hcz15_6
  try clear hcz16_0 hcz16_1 hcz16_2 hcz16_3 hcz16_4 hcz16_5 hcz16_6
  try clear hcz17_0 hcz17_1 hcz17_2 hcz17_3 hcz17_4 hcz17_5 hcz17_6
  try clear hcz18_0 hcz18_1 hcz18_2 hcz18_3 hcz18_4 hcz18_5 hcz18_6
  try clear hfz13_0 hfz13_1 hfz13_2 hfz13_3 hfz13_4 hfz13_5 hfz13_6
  try clear hfz14_0 hfz14_1 hfz14_2 hfz14_3 hfz14_4 hfz14_5 hfz14_6
  try clear hfz15_0 hfz15_1 hfz15_2 hfz15_3 hfz15_4 hfz15_5 hfz15_6
  try clear hfz16_0 hfz16_1 hfz16_2 hfz16_3 hfz16_4 hfz16_5 hfz16_6
  try clear hfz17_0 hfz17_1 hfz17_2 hfz17_3 hfz17_4 hfz17_5 hfz17_6
  try clear hfz18_0 hfz18_1 hfz18_2 hfz18_3 hfz18_4 hfz18_5 hfz18_6
  obtain ⟨kq, x38_1, rfl, HA, HJ1, BK152, HB⟩ := hcut
  cases kq with
  | zero => exact absurd HA.out (by simp [spec_SketchOk.j0])
  | succ kj1 =>
   have H := HA.out
   clear HA
   simp only [spec_SketchOk.j0] at H
   by_cases c19 : x38_1 = true
   ·subst c19
    have H1 : (some false) = some r := by rw [if_pos rfl] at H; exact H
    clear H;have H := H1;clear H1;obtain rfl := Option.some.inj H;simp only [Option.some.injEq, Prod.mk.injEq] at H;obtain ⟨rfl⟩ := H
    go_wp2
    go_ret
    exact ⟨Z3x5, Z3x0⟩
   ·replace c19 := Bool.eq_false_iff.mpr c19
    subst c19
    have H1 : (if a0_0 = 0 then (if a0_1 = 0 then (spec_SketchOk.j1 kj1 (a0_0 == 0) (a0_3 != 0) a0_0 a0_1 a0_2 a0_3 l0_4 l0_5 l0_6) else (spec_SketchOk.j1 kj1 (a0_0 == 0) true a0_0 a0_1 a0_2 a0_3 l0_4 l0_5 l0_6)) else (spec_SketchOk.j1 kj1 (a0_0 == 0) false a0_0 a0_1 a0_2 a0_3 l0_4 l0_5 l0_6)) = some r := by rw [if_neg (show ¬ (false = true) by decide)] at H; exact H
    clear H;have H := H1;clear H1;have HC20 := Aside0.mk H;clear H;obtain ⟨hcz21_0, hcz21_1, hcz21_2, hcz21_3, hcz21_4, hcz21_5, hcz21_6⟩ := cz7 BK152.out;obtain ⟨hfz21_0, hfz21_1, hfz21_2, hfz21_3, hfz21_4, hfz21_5, hfz21_6⟩ := fz7 BK152.out
    go_upto_region 4 with (fail)
    go_cut [52] (fun v52 wc => ∃ (kq : Nat) (x52_19 : Bool), v52 = .bool x52_19 ∧ Aside0 (spec_SketchOk.j1 kq (a0_0 == 0) x52_19 a0_0 a0_1 a0_2 a0_3 l0_4 l0_5 l0_6 = some r) ∧ Aside0 (kq ≤ kj1) ∧ Aside0 (wc.heap[gb152]? = some (.cells #[.int .i64 a0_0, .int .i64 a0_1, .int .i64 a0_2, .int .i64 a0_3, (.slice A0_4 l0_4.length c0_4), (.slice A0_5 l0_5.length c0_5), (.slice A0_6 l0_6.length c0_6)] 27 (0, 0))) ∧ Aside0 (Below w.heap.size w wc))
    case first =>
     have H := HC20.out;clear HC20
     by_cases c22 : a0_0 = 0
     ·rw [if_pos c22] at H
      have c22b0 : (a0_0 == 0) = true := beq_iff_eq.mpr c22;have c22b1 : (a0_0 != 0) = false := bne_eq_false_iff_eq.mpr c22;clear c22
      (first | rw [c22b0] | (simp only [i64_w, i32_w]; rw [c22b0]) | rw [c22b1] | rw [c22b2] | rw [c22b3] | skip)
      by_cases c23 : a0_1 = 0
      ·rw [if_pos c23] at H
       have c23b0 : (a0_1 == 0) = true := beq_iff_eq.mpr c23;have c23b1 : (a0_1 != 0) = false := bne_eq_false_iff_eq.mpr c23;clear c23;have H' := Aside0.mk H;clear H;obtain ⟨hcz24_0, hcz24_1, hcz24_2, hcz24_3, hcz24_4, hcz24_5, hcz24_6⟩ := cz7 BK152.out;obtain ⟨hfz24_0, hfz24_1, hfz24_2, hfz24_3, hfz24_4, hfz24_5, hfz24_6⟩ := fz7 BK152.out
       go_wp2
       (first | go_meet | (refine Met.intro ?_; go_step; (repeat apply Exists.intro); refine ⟨?rel, ?eqs⟩; case eqs => ((try rw [show (a0_0 == 0) = true from by assumption]); (try rw [show (a0_0 == 0) = false from by assumption]); (try rw [show (a0_1 != 0) = true from by assumption]); (try rw [show (a0_1 != 0) = false from by assumption]); (try rw [show (a0_3 != 0) = true from by assumption]); (try rw [show (a0_3 != 0) = false from by assumption]); (try rfl))))
       case rel => exact ⟨_, ((a0_3 != 0)), Z3x3, H', ⟨by have := HJ1.out; first | omega | exact Nat.le_refl _⟩, ⟨Z3x2⟩, ⟨Z3x0⟩⟩
      ·rw [if_neg c23] at H
       have c23b0 : (a0_1 == 0) = false := beq_eq_false_iff_ne.mpr c23;have c23b1 : (a0_1 != 0) = true := bne_iff_ne.mpr c23;have H' := Aside0.mk H;clear H;obtain ⟨hcz25_0, hcz25_1, hcz25_2, hcz25_3, hcz25_4, hcz25_5, hcz25_6⟩ := cz7 BK152.out;obtain ⟨hfz25_0, hfz25_1, hfz25_2, hfz25_3, hfz25_4, hfz25_5, hfz25_6⟩ := fz7 BK152.out
       go_wp2
       (first | go_meet | (refine Met.intro ?_; go_step; (repeat apply Exists.intro); refine ⟨?rel, ?eqs⟩; case eqs => ((try rw [show (a0_0 == 0) = true from by assumption]); (try rw [show (a0_0 == 0) = false from by assumption]); (try rw [show (a0_1 != 0) = true from by assumption]); (try rw [show (a0_1 != 0) = false from by assumption]); (try rfl))))
       case rel => exact ⟨_, (true), Z3x3, H', ⟨by have := HJ1.out; first | omega | exact Nat.le_refl _⟩, ⟨Z3x2⟩, ⟨Z3x0⟩⟩
     ·rw [if_neg c22] at H
      have c22b0 : (a0_0 == 0) = false := beq_eq_false_iff_ne.mpr c22;have c22b1 : (a0_0 != 0) = true := bne_iff_ne.mpr c22
      (first | rw [c22b0] | (simp only [i64_w, i32_w]; rw [c22b0]) | rw [c22b1] | rw [c22b2] | rw [c22b3] | skip)
      have H' := Aside0.mk H;clear H
      go_wp2
      (first | go_meet | (refine Met.intro ?_; go_step; (repeat apply Exists.intro); refine ⟨?rel, ?eqs⟩; case eqs => ((try rw [show (a0_0 == 0) = true from by assumption]); (try rw [show (a0_0 == 0) = false from by assumption]); (try rfl))))
      case rel => exact ⟨_, (false), Z3x3, H', ⟨by have := HJ1.out; first | omega | exact Nat.le_refl _⟩, ⟨Z3x2⟩, ⟨Z3x0⟩⟩
    case rest =>
     clear HC20
     try clear c1
     try clear c2
     try clear p2
     try clear c4
     try clear c5
     try clear c7
     try clear c9
     try clear c11
     try clear c12
     try clear c12b0
     try clear c12b1
     try clear c12b2
     try clear c19
     try clear c22
     try clear c22b0
     try clear c22b1
     try clear c22b2
     try clear c23
     try clear c23b0
     try clear c23b1
     try clear hcz13_0 hcz13_1 hcz13_2 hcz13_3 hcz13_4 hcz13_5 hcz13_6
     try clear hcz14_0 hcz14_1 hcz14_2 hcz14_3 hcz14_4 hcz14_5 hcz14_6
     try clear hcz15_0 hcz15_1 hcz15_2 hcz15_3 hcz15_4 hcz15_5 hcz15_6
     try clear hcz16_0 hcz16_1 hcz16_2 hcz16_3 hcz16_4 hcz16_5 hcz16_6
     try clear hcz17_0 hcz17_1 hcz17_2 hcz17_3 hcz17_4 hcz17_5 hcz17_6
     try clear hcz18_0 hcz18_1 hcz18_2 hcz18_3 hcz18_4 hcz18_5 hcz18_6
     try clear hcz21_0 hcz21_1 hcz21_2 hcz21_3 hcz21_4 hcz21_5 hcz21_6
     try clear hcz24_0 hcz24_1 hcz24_2 hcz24_3 hcz24_4 hcz24_5 hcz24_6
     try clear hcz25_0 hcz25_1 hcz25_2 hcz25_3 hcz25_4 hcz25_5 hcz25_6
     try clear hfz13_0 hfz13_1 hfz13_2 hfz13_3 hfz13_4 hfz13_5 hfz13_6
     try clear hfz14_0 hfz14_1 hfz14_2 hfz14_3 hfz14_4 hfz14_5 hfz14_6
     try clear hfz15_0 hfz15_1 hfz15_2 hfz15_3 hfz15_4 hfz15_5 hfz15_6
     try clear hfz16_0 hfz16_1 hfz16_2 hfz16_3 hfz16_4 hfz16_5 hfz16_6
     try clear hfz17_0 hfz17_1 hfz17_2 hfz17_3 hfz17_4 hfz17_5 hfz17_6
     try clear hfz18_0 hfz18_1 hfz18_2 hfz18_3 hfz18_4 hfz18_5 hfz18_6
     try clear hfz21_0 hfz21_1 hfz21_2 hfz21_3 hfz21_4 hfz21_5 hfz21_6
     try clear hfz24_0 hfz24_1 hfz24_2 hfz24_3 hfz24_4 hfz24_5 hfz24_6
     try clear hfz25_0 hfz25_1 hfz25_2 hfz25_3 hfz25_4 hfz25_5 hfz25_6
     try clear p2
     obtain ⟨kq, x52_19, rfl, HA, HJ19, BK152, HB⟩ := hcut
     cases kq with
     | zero => exact absurd HA.out (by simp [spec_SketchOk.j1])
     | succ kj19 =>
      have H := HA.out;clear HA;simp only [spec_SketchOk.j1] at H
      by_cases c26 : x52_19 = true
      ·subst c26
       have H1 : (some false) = some r := by rw [if_pos rfl] at H; exact H
       clear H;have H := H1;clear H1;obtain rfl := Option.some.inj H;simp only [Option.some.injEq, Prod.mk.injEq] at H;obtain ⟨rfl⟩ := H
       go_wp2
       go_ret
       exact ⟨Z3x5, Z3x0⟩
      ·replace c26 := Bool.eq_false_iff.mpr c26
       subst c26
       have H1 : ((spec_l3List.f kj19 l0_4 8 1000000000 (a0_0 == 0)).bind fun t157 => (if t157 = true then ((spec_l3List.f kj19 l0_5 8 17 (a0_0 == 0)).bind fun t158 => (if t158 = true then (if 0 < (l0_6.length : Int) then ((spec_l3List.f kj19 (rd_L2 l0_6 0) 4 1000000000 (a0_0 == 0)).bind fun t160 => (if t160 = true then (if 1 < (l0_6.length : Int) then ((spec_l3List.f kj19 (rd_L2 l0_6 1) 4 1000000000 (a0_0 == 0)).bind fun t162 => (some t162)) else (none)) else (some false))) else (none)) else (some false))) else (some false))) = some r := by rw [if_neg (show ¬ (false = true) by decide)] at H; exact H
       clear H;have H := H1;clear H1;replace H := Option.bind_eq_some_iff.mp H;obtain ⟨t157, A270, H⟩ := H;replace H : (if t157 = true then ((spec_l3List.f kj19 l0_5 8 17 (a0_0 == 0)).bind fun t158 => (if t158 = true then (if 0 < (l0_6.length : Int) then ((spec_l3List.f kj19 (rd_L2 l0_6 0) 4 1000000000 (a0_0 == 0)).bind fun t160 => (if t160 = true then (if 1 < (l0_6.length : Int) then ((spec_l3List.f kj19 (rd_L2 l0_6 1) 4 1000000000 (a0_0 == 0)).bind fun t162 => (some t162)) else (none)) else (some false))) else (none)) else (some false))) else (some false)) = some r := H;have A27 := Aside0.mk A270;clear A270
       by_cases c28 : t157 = true
       ·subst c28
        have H1 : ((spec_l3List.f kj19 l0_5 8 17 (a0_0 == 0)).bind fun t158 => (if t158 = true then (if 0 < (l0_6.length : Int) then ((spec_l3List.f kj19 (rd_L2 l0_6 0) 4 1000000000 (a0_0 == 0)).bind fun t160 => (if t160 = true then (if 1 < (l0_6.length : Int) then ((spec_l3List.f kj19 (rd_L2 l0_6 1) 4 1000000000 (a0_0 == 0)).bind fun t162 => (some t162)) else (none)) else (some false))) else (none)) else (some false))) = some r := by rw [if_pos rfl] at H; exact H
        clear H;have H := H1;clear H1;replace H := Option.bind_eq_some_iff.mp H;obtain ⟨t158, A290, H⟩ := H;replace H : (if t158 = true then (if 0 < (l0_6.length : Int) then ((spec_l3List.f kj19 (rd_L2 l0_6 0) 4 1000000000 (a0_0 == 0)).bind fun t160 => (if t160 = true then (if 1 < (l0_6.length : Int) then ((spec_l3List.f kj19 (rd_L2 l0_6 1) 4 1000000000 (a0_0 == 0)).bind fun t162 => (some t162)) else (none)) else (some false))) else (none)) else (some false)) = some r := H;have A29 := Aside0.mk A290;clear A290
        by_cases c30 : t158 = true
        ·subst c30
         have H1 : (if 0 < (l0_6.length : Int) then ((spec_l3List.f kj19 (rd_L2 l0_6 0) 4 1000000000 (a0_0 == 0)).bind fun t160 => (if t160 = true then (if 1 < (l0_6.length : Int) then ((spec_l3List.f kj19 (rd_L2 l0_6 1) 4 1000000000 (a0_0 == 0)).bind fun t162 => (some t162)) else (none)) else (some false))) else (none)) = some r := by rw [if_pos rfl] at H; exact H
         clear H;have H := H1;clear H1
         by_cases c31 : 0 < (l0_6.length : Int)
         ·rw [if_pos c31] at H
          have c31b0 : decide (0 < (l0_6.length : Int)) = true := decide_eq_true c31
          (try (have c31b1 : decide (0 < l0_6.length) = true := decide_eq_true (by omega)))
          (try (have c31b2 : (0 < l0_6.length) = True := eq_true (by omega)))
          have c31b3 : decide (0 < l0_6.length) = true := decide_eq_true (by omega);clear c31;replace H := Option.bind_eq_some_iff.mp H;obtain ⟨t160, A320, H⟩ := H;replace H : (if t160 = true then (if 1 < (l0_6.length : Int) then ((spec_l3List.f kj19 (rd_L2 l0_6 1) 4 1000000000 (a0_0 == 0)).bind fun t162 => (some t162)) else (none)) else (some false)) = some r := H;have A32 := Aside0.mk A320;clear A320
          by_cases c33 : t160 = true
          ·subst c33
           have H1 : (if 1 < (l0_6.length : Int) then ((spec_l3List.f kj19 (rd_L2 l0_6 1) 4 1000000000 (a0_0 == 0)).bind fun t162 => (some t162)) else (none)) = some r := by rw [if_pos rfl] at H; exact H
           clear H;have H := H1;clear H1
           by_cases c34 : 1 < (l0_6.length : Int)
           ·rw [if_pos c34] at H
            have c34b0 : decide (1 < (l0_6.length : Int)) = true := decide_eq_true c34
            (try (have c34b1 : decide (1 < l0_6.length) = true := decide_eq_true (by omega)))
            (try (have c34b2 : (1 < l0_6.length) = True := eq_true (by omega)))
            have c34b3 : decide (1 < l0_6.length) = true := decide_eq_true (by omega);clear c34;replace H := Option.bind_eq_some_iff.mp H;obtain ⟨t162, A350, H⟩ := H;replace H : (some t162) = some r := H;have A35 := Aside0.mk A350;clear A350;obtain rfl := Option.some.inj H;simp only [Option.some.injEq, Prod.mk.injEq] at H;obtain ⟨rfl⟩ := H;obtain ⟨hcz36_0, hcz36_1, hcz36_2, hcz36_3, hcz36_4, hcz36_5, hcz36_6⟩ := cz7 BK152.out;obtain ⟨hfz36_0, hfz36_1, hfz36_2, hfz36_3, hfz36_4, hfz36_5, hfz36_6⟩ := fz7 BK152.out
            go_wp2_with (first | ((with_reducible refine gate_callee (f := 99) rfl ?_); refine goesL_ (some 56) rfl rfl Try.func99 (by kernel_rfl) rfl #[.slice A0_4 l0_4.length c0_4, .int .i64 8, .int .i64 1000000000, .bool (a0_0 == 0)] rfl Z3x1 ?_; (with_reducible refine (spec_l3List.calls kj19 _ _ l0_4 8 1000000000 (a0_0 == 0) true _ ?side1 ?side2 A27.out).mono ?_); (case side1 => exact Z3x4); (case side2 => exact HC0_4.out); rintro e w' ⟨rfl, ⟨nd, rfl⟩⟩; refine ⟨_, rfl, ?_⟩) | (go_at_call 99; (with_reducible refine (spec_l3List.calls kj19 _ _ l0_5 8 17 (a0_0 == 0) true _ ?side1 ?side2 A29.out).mono ?_); (case side1 => exact Z3x6); (case side2 => exact HC0_5.out); rintro e w' ⟨rfl, ⟨nd, rfl⟩⟩; have p159 : 0 ≤ (0 : Int) := (by omega); have q159 : 0 < (l0_6.length : Int) := of_decide_eq_true (by first | (with_reducible assumption) | assumption); obtain ⟨ad159, A159_0, c159_0, e159, hx159_0, hl159_0, hi159_0⟩ := at_L2 HR0_6.out 0 p159 q159; cases e159; have qi159 : (0 < l0_6.length) = True := eq_true (by omega); (try rw [show ((0 : Int)).toNat = 0 from rfl] at hx159_0); (try rw [Addr.add_zero'] at hx159_0); replace hx159_0 := czB HB.out hx159_0; have HR159_0 := Aside0.mk hi159_0; have HC159_0 := Aside0.mk hl159_0; clear hi159_0 hl159_0; replace p159 := eq_true p159; replace q159 := eq_true q159) | (go_at_call 99; (with_reducible refine (spec_l3List.calls kj19 _ _ (rd_L2 l0_6 0) 4 1000000000 (a0_0 == 0) true _ ?side1 ?side2 A32.out).mono ?_); (case side1 => repeat (first | exact (Kd.C_below HR159_0.out Z3x0) | (with_reducible refine Kd.C_alloc ?_ _) | (with_reducible refine Kd.C_drewN ?_ _) | (with_reducible refine Kd.C_drew ?_))); (case side2 => exact HC159_0.out); rintro e w' ⟨rfl, ⟨nd, rfl⟩⟩; have p161 : 0 ≤ (1 : Int) := (by omega); have q161 : 1 < (l0_6.length : Int) := of_decide_eq_true (by first | (with_reducible assumption) | assumption); obtain ⟨ad161, A161_0, c161_0, e161, hx161_0, hl161_0, hi161_0⟩ := at_L2 HR0_6.out 1 p161 q161; obtain rfl : ad159 = ad161 := (by injection e161); (try simp only [show (1 : Int).toNat = 1 from rfl, Nat.reduceMul, Nat.reduceEqDiff, Go.Addr.add, ↓reduceIte] at hx161_0); have qi161 : (1 < l0_6.length) = True := eq_true (by omega); (try rw [show ((1 : Int)).toNat = 1 from rfl] at hx161_0); replace hx161_0 := czB HB.out hx161_0; have HR161_0 := Aside0.mk hi161_0; have HC161_0 := Aside0.mk hl161_0; clear hi161_0 hl161_0; replace p161 := eq_true p161; replace q161 := eq_true q161) | (go_at_call 99; (with_reducible refine (spec_l3List.calls kj19 _ _ (rd_L2 l0_6 1) 4 1000000000 (a0_0 == 0) t162 _ ?side1 ?side2 A35.out).mono ?_); (case side1 => repeat (first | exact (Kd.C_below HR161_0.out Z3x0) | (with_reducible refine Kd.C_alloc ?_ _) | (with_reducible refine Kd.C_drewN ?_ _) | (with_reducible refine Kd.C_drew ?_))); (case side2 => exact HC161_0.out); rintro e w' ⟨rfl, ⟨nd, rfl⟩⟩))
            go_ret
            exact ⟨Z3x5, Z3x0⟩
           ·rw [if_neg c34] at H
            exact absurd H (by simp)
          ·replace c33 := Bool.eq_false_iff.mpr c33
           subst c33
           have H1 : (some false) = some r := by rw [if_neg (show ¬ (false = true) by decide)] at H; exact H
           clear H;have H := H1;clear H1;obtain rfl := Option.some.inj H;simp only [Option.some.injEq, Prod.mk.injEq] at H;obtain ⟨rfl⟩ := H;obtain ⟨hcz37_0, hcz37_1, hcz37_2, hcz37_3, hcz37_4, hcz37_5, hcz37_6⟩ := cz7 BK152.out;obtain ⟨hfz37_0, hfz37_1, hfz37_2, hfz37_3, hfz37_4, hfz37_5, hfz37_6⟩ := fz7 BK152.out
           go_wp2_with (first | ((with_reducible refine gate_callee (f := 99) rfl ?_); refine goesL_ (some 56) rfl rfl Try.func99 (by kernel_rfl) rfl #[.slice A0_4 l0_4.length c0_4, .int .i64 8, .int .i64 1000000000, .bool (a0_0 == 0)] rfl Z3x1 ?_; (with_reducible refine (spec_l3List.calls kj19 _ _ l0_4 8 1000000000 (a0_0 == 0) true _ ?side1 ?side2 A27.out).mono ?_); (case side1 => exact Z3x4); (case side2 => exact HC0_4.out); rintro e w' ⟨rfl, ⟨nd, rfl⟩⟩; refine ⟨_, rfl, ?_⟩) | (go_at_call 99; (with_reducible refine (spec_l3List.calls kj19 _ _ l0_5 8 17 (a0_0 == 0) true _ ?side1 ?side2 A29.out).mono ?_); (case side1 => exact Z3x6); (case side2 => exact HC0_5.out); rintro e w' ⟨rfl, ⟨nd, rfl⟩⟩; have p159 : 0 ≤ (0 : Int) := (by omega); have q159 : 0 < (l0_6.length : Int) := of_decide_eq_true (by first | (with_reducible assumption) | assumption); obtain ⟨ad159, A159_0, c159_0, e159, hx159_0, hl159_0, hi159_0⟩ := at_L2 HR0_6.out 0 p159 q159; cases e159; have qi159 : (0 < l0_6.length) = True := eq_true (by omega); (try rw [show ((0 : Int)).toNat = 0 from rfl] at hx159_0); (try rw [Addr.add_zero'] at hx159_0); replace hx159_0 := czB HB.out hx159_0; have HR159_0 := Aside0.mk hi159_0; have HC159_0 := Aside0.mk hl159_0; clear hi159_0 hl159_0; replace p159 := eq_true p159; replace q159 := eq_true q159) | (go_at_call 99; (with_reducible refine (spec_l3List.calls kj19 _ _ (rd_L2 l0_6 0) 4 1000000000 (a0_0 == 0) false _ ?side1 ?side2 A32.out).mono ?_); (case side1 => repeat (first | exact (Kd.C_below HR159_0.out Z3x0) | (with_reducible refine Kd.C_alloc ?_ _) | (with_reducible refine Kd.C_drewN ?_ _) | (with_reducible refine Kd.C_drew ?_))); (case side2 => exact HC159_0.out); rintro e w' ⟨rfl, ⟨nd, rfl⟩⟩))
           go_ret
           exact ⟨Z3x5, Z3x0⟩
         ·rw [if_neg c31] at H
          exact absurd H (by simp)
        ·replace c30 := Bool.eq_false_iff.mpr c30
         subst c30
         have H1 : (some false) = some r := by rw [if_neg (show ¬ (false = true) by decide)] at H; exact H
         clear H;have H := H1;clear H1;obtain rfl := Option.some.inj H;simp only [Option.some.injEq, Prod.mk.injEq] at H;obtain ⟨rfl⟩ := H;obtain ⟨hcz38_0, hcz38_1, hcz38_2, hcz38_3, hcz38_4, hcz38_5, hcz38_6⟩ := cz7 BK152.out;obtain ⟨hfz38_0, hfz38_1, hfz38_2, hfz38_3, hfz38_4, hfz38_5, hfz38_6⟩ := fz7 BK152.out
         go_wp2_with (first | ((with_reducible refine gate_callee (f := 99) rfl ?_); refine goesL_ (some 56) rfl rfl Try.func99 (by kernel_rfl) rfl #[.slice A0_4 l0_4.length c0_4, .int .i64 8, .int .i64 1000000000, .bool (a0_0 == 0)] rfl Z3x1 ?_; (with_reducible refine (spec_l3List.calls kj19 _ _ l0_4 8 1000000000 (a0_0 == 0) true _ ?side1 ?side2 A27.out).mono ?_); (case side1 => exact Z3x4); (case side2 => exact HC0_4.out); rintro e w' ⟨rfl, ⟨nd, rfl⟩⟩; refine ⟨_, rfl, ?_⟩) | (go_at_call 99; (with_reducible refine (spec_l3List.calls kj19 _ _ l0_5 8 17 (a0_0 == 0) false _ ?side1 ?side2 A29.out).mono ?_); (case side1 => exact Z3x6); (case side2 => exact HC0_5.out); rintro e w' ⟨rfl, ⟨nd, rfl⟩⟩))
         go_ret
         exact ⟨Z3x5, Z3x0⟩
       ·replace c28 := Bool.eq_false_iff.mpr c28
        subst c28
        have H1 : (some false) = some r := by rw [if_neg (show ¬ (false = true) by decide)] at H; exact H
        clear H;have H := H1;clear H1;obtain rfl := Option.some.inj H;simp only [Option.some.injEq, Prod.mk.injEq] at H;obtain ⟨rfl⟩ := H;obtain ⟨hcz39_0, hcz39_1, hcz39_2, hcz39_3, hcz39_4, hcz39_5, hcz39_6⟩ := cz7 BK152.out;obtain ⟨hfz39_0, hfz39_1, hfz39_2, hfz39_3, hfz39_4, hfz39_5, hfz39_6⟩ := fz7 BK152.out
        go_wp2_with (first | ((with_reducible refine gate_callee (f := 99) rfl ?_); refine goesL_ (some 56) rfl rfl Try.func99 (by kernel_rfl) rfl #[.slice A0_4 l0_4.length c0_4, .int .i64 8, .int .i64 1000000000, .bool (a0_0 == 0)] rfl Z3x1 ?_; (with_reducible refine (spec_l3List.calls kj19 _ _ l0_4 8 1000000000 (a0_0 == 0) false _ ?side1 ?side2 A27.out).mono ?_); (case side1 => exact Z3x4); (case side2 => exact HC0_4.out); rintro e w' ⟨rfl, ⟨nd, rfl⟩⟩; refine ⟨_, rfl, ?_⟩))
        go_ret
        exact ⟨Z3x5, Z3x0⟩

def spec_l1Min.f (a0 : Int) (a1 : Int) : Option (Int) := if a0 < a1 then (some a0) else (some a1)
set_option maxHeartbeats 8000000 in
set_option maxRecDepth 100000 in
theorem spec_l1Min.calls (a0 : Int) (a1 : Int) (r : Int) (w : World) (h : spec_l1Min.f a0 a1 = some r) :
  Calls Try.prog 108 #[.int .i64 a0, .int .i64 a1] w fun e w' => e = .returned (.int .i64 r) ∧ Drawn0 w w' := by
 have H : (if a0 < a1 then (some a0) else (some a1)) = some r := h
 clear h
 by_cases c3 : a0 < a1
 ·rw [if_pos c3] at H
  have c3b0 : decide (a0 < a1) = true := decide_eq_true c3
  clear c3
  obtain rfl := Option.some.inj H
  simp only [Option.some.injEq, Prod.mk.injEq] at H
  obtain ⟨rfl⟩ := H
  go_enter Try.func108, Try.ntmps108
  go_wp2
  go_ret
  exact ⟨Z3x3, by repeat (first | exact Drawn0.refl _ | apply Drawn0.step)⟩
 ·rw [if_neg c3] at H
  have c3b0 : decide (a0 < a1) = false := decide_eq_false c3
  clear c3
  obtain rfl := Option.some.inj H
  simp only [Option.some.injEq, Prod.mk.injEq] at H
  obtain ⟨rfl⟩ := H
  go_enter Try.func108, Try.ntmps108
  go_wp2
  go_ret
  exact ⟨Z3x3, by repeat (first | exact Drawn0.refl _ | apply Drawn0.step)⟩

def spec_l1Max.f (a0 : Int) (a1 : Int) : Option (Int) := if a0 > a1 then (some a0) else (some a1)
set_option maxHeartbeats 8000000 in
set_option maxRecDepth 100000 in
theorem spec_l1Max.calls (a0 : Int) (a1 : Int) (r : Int) (w : World) (h : spec_l1Max.f a0 a1 = some r) :
  Calls Try.prog 109 #[.int .i64 a0, .int .i64 a1] w fun e w' => e = .returned (.int .i64 r) ∧ Drawn0 w w' := by
 have H : (if a0 > a1 then (some a0) else (some a1)) = some r := h
 clear h
 by_cases c3 : a0 > a1
 ·rw [if_pos c3] at H
  have c3b0 : decide (a1 < a0) = true := decide_eq_true c3
  clear c3
  obtain rfl := Option.some.inj H
  simp only [Option.some.injEq, Prod.mk.injEq] at H
  obtain ⟨rfl⟩ := H
  go_enter Try.func109, Try.ntmps109
  go_wp2
  go_ret
  exact ⟨Z3x3, by repeat (first | exact Drawn0.refl _ | apply Drawn0.step)⟩
 ·rw [if_neg c3] at H
  have c3b0 : decide (a1 < a0) = false := decide_eq_false c3
  clear c3
  obtain rfl := Option.some.inj H
  simp only [Option.some.injEq, Prod.mk.injEq] at H
  obtain ⟨rfl⟩ := H
  go_enter Try.func109, Try.ntmps109
  go_wp2
  go_ret
  exact ⟨Z3x3, by repeat (first | exact Drawn0.refl _ | apply Drawn0.step)⟩

def spec_l2Clip.f (a0 : Int) (a1 : Int) : Option (Int) := (spec_l1Min.f a0 a1).bind fun t163 => ((spec_l1Max.f 0 t163).bind fun t164 => (some t164))
set_option maxHeartbeats 8000000 in
set_option maxRecDepth 100000 in
theorem spec_l2Clip.calls (a0 : Int) (a1 : Int) (r : Int) (w : World) (h : spec_l2Clip.f a0 a1 = some r) :
  Calls Try.prog 117 #[.int .i64 a0, .int .i64 a1] w fun e w' => e = .returned (.int .i64 r) ∧ Drawn0 w w' := by
 have H : ((spec_l1Min.f a0 a1).bind fun t163 => ((spec_l1Max.f 0 t163).bind fun t164 => (some t164))) = some r := h
 clear h
 replace H := Option.bind_eq_some_iff.mp H
 obtain ⟨t163, A30, H⟩ := H
 replace H : ((spec_l1Max.f 0 t163).bind fun t164 => (some t164)) = some r := H
 have A3 := Aside0.mk A30
 clear A30
 replace H := Option.bind_eq_some_iff.mp H
 obtain ⟨t164, A40, H⟩ := H
 replace H : (some t164) = some r := H
 have A4 := Aside0.mk A40
 clear A40
 obtain rfl := Option.some.inj H
 simp only [Option.some.injEq, Prod.mk.injEq] at H
 obtain ⟨rfl⟩ := H
 go_enter Try.func117, Try.ntmps117
 go_wp2_with (first | ((with_reducible refine gate_callee (f := 108) rfl ?_); refine goesL_ (some 7) rfl rfl Try.func108 (by kernel_rfl) rfl #[.int .i64 a0, .int .i64 a1] rfl Z3x1 ?_; (with_reducible refine (spec_l1Min.calls a0 a1 t163 _ A3.out).mono ?_); rintro e w' ⟨rfl, ⟨nd, rfl⟩⟩; refine ⟨_, rfl, ?_⟩) | ((with_reducible refine gate_callee (f := 109) rfl ?_); refine goesL_ (some 8) rfl rfl Try.func109 (by kernel_rfl) rfl #[.int .i64 0, .int .i64 t163] rfl Z3x1 ?_; (with_reducible refine (spec_l1Max.calls 0 t163 t164 _ A4.out).mono ?_); rintro e w' ⟨rfl, ⟨nd, rfl⟩⟩; refine ⟨_, rfl, ?_⟩))
 go_ret
 exact ⟨Z3x3, by repeat (first | exact Drawn0.refl _ | apply Drawn0.step)⟩

end Go.Proofs.Ytdciagkholijlaa.PFnItems
