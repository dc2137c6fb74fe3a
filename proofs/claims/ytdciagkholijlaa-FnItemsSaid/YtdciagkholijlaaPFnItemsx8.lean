-- Written by this session's changed copy of the kit's printer (wip/patch_print.py): not the kit's own print.
import Derived.Test.YtdciagkholijlaaPFnItemsx0
import Derived.Test.YtdciagkholijlaaPFnItemsx7
namespace Go.Proofs.Ytdciagkholijlaa.PFnItems
open Go.RowKit Go.Proofs.YtdciagkholijlaaW.PrintWords Go.Proofs.YtdciagkholijlaaW.PrintLast Go.Proofs.YtdciagkholijlaaW.PrintMore
attribute [local go_sem] max2_int min2_int max_two min_two max_three min_three max_four min_four   -- for this text's walks alone
set_option linter.unusedVariables false
set_option linter.unusedSimpArgs false
theorem Z8x0 {p : Prop} (h : p := by repeat (first | (with_reducible first | exact HB.out | apply below_alloc | apply pw_below_drewN | apply below_drew1 | refine below_set ?_ GE323.out) | exact HB.out)) : p := h
theorem Z8x1 {p : Prop} (h : p := by (with_reducible repeat (first | refine blk_drewN ?_ _ | refine blk_drew ?_ | refine blk_alloc ?_ _)); exact BK323.out) : p := h
theorem Z8x2 {p : Prop} (h : p := by first | rfl | (simp [errW_none, errW_some] <;> rfl) | (simp [*, errW_none, errW_some] <;> rfl)) : p := h
theorem Z8x3 {p : Prop} (h : p := by first | (with_reducible assumption) | assumption) : p := h
theorem Z8x4 {p : Prop} (h : p := by first | rfl | (simp; done) | (simp [*]; done)) : p := h
theorem Z8x5 {p : Prop} (h : p := by (try simp only [List.map_toArray, List.map_cons, List.map_nil]); first | done | rfl | (simp only [List.length_drop, List.length_take]; rfl)) : p := h
theorem Z8x6 {p : Prop} (h : p := by repeat (first | (with_reducible first | exact HB.out | apply below_alloc | apply pw_below_drewN | apply below_drew1) | exact HB.out)) : p := h

mutual
def impl_SketchOk.j0 : Nat → Bool → Int → Int → Int → Int → List Int → List Int → List (List Int) → Option (Bool)
 | 0, _, _, _, _, _, _, _, _ => none
 | k + 1, x39, x324000, x324001, x324002, x324003, x324004, x324005, x324006 => if x39 = true then (some false) else ((impl_counts.f k x324000 x324001 x324002 x324003 x324004 x324005 x324006).bind fun t326 => ((some (([x324000, x324001, x324002, x324003] : List Int) : List Int)).bind fun y329 => (if t326.length + y329.length < 17592186044416 then ((some (t326 ++ y329 : List Int)).bind fun y332 => (impl_SketchOk.l0 k 0 y332 (y332.length : Int) 0 x324000 x324001 x324002 x324003 x324004 x324005 x324006)) else (none))))
def impl_SketchOk.l0 : Nat → Int → List Int → Int → Int → Int → Int → Int → Int → List Int → List Int → List (List Int) → Option (Bool)
 | 0, _, _, _, _, _, _, _, _, _, _, _ => none
 | k + 1, x3, x51, x52, x53, x324000, x324001, x324002, x324003, x324004, x324005, x324006 => if x53 < x52 then (if 0 ≤ x53 then (if x53 < (x51.length : Int) then ((impl_within.f (rd x51 x53) 0 1000000000).bind fun t336 => (if t336 = true then (impl_SketchOk.l0 k (wrap64 (x3 + (rd x51 x53))) x51 x52 (wrap64 (x53 + 1)) x324000 x324001 x324002 x324003 x324004 x324005 x324006) else (some false))) else (none)) else (none)) else (impl_SketchOk.l1 k x3 x324005 (x324005.length : Int) 0 x324000 x324001 x324002 x324003 x324004 x324005 x324006)
def impl_SketchOk.l1 : Nat → Int → List Int → Int → Int → Int → Int → Int → Int → List Int → List Int → List (List Int) → Option (Bool)
 | 0, _, _, _, _, _, _, _, _, _, _, _ => none
 | k + 1, x3, x65, x66, x67, x324000, x324001, x324002, x324003, x324004, x324005, x324006 => if x67 < x66 then (if 0 ≤ x67 then (if x67 < (x65.length : Int) then (if (rd x65 x67) > 17 then (some false) else (impl_SketchOk.l1 k x3 x65 x66 (wrap64 (x67 + 1)) x324000 x324001 x324002 x324003 x324004 x324005 x324006)) else (none)) else (none)) else (if x324000 = 0 then (some (x3 == 0)) else (if x324002 ≤ x324003 then (some (decide (x324003 ≤ 1000000))) else (some false)))
end
def impl_SketchOk.f (k : Nat) (a0_0 : Int) (a0_1 : Int) (a0_2 : Int) (a0_3 : Int) (l0_4 : List Int) (l0_5 : List Int) (l0_6 : List (List Int)) : Option (Bool) := if (l0_4.length : Int) = 8 then (if (l0_5.length : Int) = 8 then (if (l0_6.length : Int) = 2 then (if 0 < (l0_6.length : Int) then (if ((rd_L2 l0_6 0).length : Int) = 4 then (if 1 < (l0_6.length : Int) then (impl_SketchOk.j0 k (((rd_L2 l0_6 1).length : Int) != 4) a0_0 a0_1 a0_2 a0_3 l0_4 l0_5 l0_6) else (none)) else (impl_SketchOk.j0 k true a0_0 a0_1 a0_2 a0_3 l0_4 l0_5 l0_6)) else (none)) else (impl_SketchOk.j0 k true a0_0 a0_1 a0_2 a0_3 l0_4 l0_5 l0_6)) else (impl_SketchOk.j0 k true a0_0 a0_1 a0_2 a0_3 l0_4 l0_5 l0_6)) else (impl_SketchOk.j0 k true a0_0 a0_1 a0_2 a0_3 l0_4 l0_5 l0_6)
theorem impl_SketchOk.mono_l : ∀ k, (∀ y0 y1 y2 y3 y4 y5 y6 y7, LeO (impl_SketchOk.j0 k y0 y1 y2 y3 y4 y5 y6 y7) (impl_SketchOk.j0 (k + 1) y0 y1 y2 y3 y4 y5 y6 y7)) ∧ (∀ y0 y1 y2 y3 y4 y5 y6 y7 y8 y9 y10, LeO (impl_SketchOk.l0 k y0 y1 y2 y3 y4 y5 y6 y7 y8 y9 y10) (impl_SketchOk.l0 (k + 1) y0 y1 y2 y3 y4 y5 y6 y7 y8 y9 y10)) ∧ (∀ y0 y1 y2 y3 y4 y5 y6 y7 y8 y9 y10, LeO (impl_SketchOk.l1 k y0 y1 y2 y3 y4 y5 y6 y7 y8 y9 y10) (impl_SketchOk.l1 (k + 1) y0 y1 y2 y3 y4 y5 y6 y7 y8 y9 y10))
 | 0 => ⟨fun _ _ _ _ _ _ _ _ r h => by simp [impl_SketchOk.j0] at h, fun _ _ _ _ _ _ _ _ _ _ _ r h => by simp [impl_SketchOk.l0] at h, fun _ _ _ _ _ _ _ _ _ _ _ r h => by simp [impl_SketchOk.l1] at h⟩
 | k + 1 => by
  obtain ⟨ih0, ih1, ih2⟩ := impl_SketchOk.mono_l k
  refine ⟨?_, ?_, ?_⟩
  ·intro y0 y1 y2 y3 y4 y5 y6 y7
   unfold impl_SketchOk.j0
   repeat' first
   | (with_reducible exact ih0 _ _ _ _ _ _ _ _)
   | (with_reducible exact ih1 _ _ _ _ _ _ _ _ _ _ _)
   | (with_reducible exact ih2 _ _ _ _ _ _ _ _ _ _ _)
   | (with_reducible exact impl_counts.mono _ _ _ _ _ _ _ _)
   | (with_reducible exact LeO.refl _)
   | (with_reducible exact LeO.none _)
   | (with_reducible refine LeO.ite ?_ ?_)
   | (with_reducible refine LeO.bind ?_ (fun _ => ?_))
   | exact ih0 _ _ _ _ _ _ _ _
   | exact ih1 _ _ _ _ _ _ _ _ _ _ _
   | exact ih2 _ _ _ _ _ _ _ _ _ _ _
   | exact impl_counts.mono _ _ _ _ _ _ _ _
   | exact LeO.none _
   | refine LeO.ite ?_ ?_
   | refine LeO.bind ?_ (fun _ => ?_)
  ·intro y0 y1 y2 y3 y4 y5 y6 y7 y8 y9 y10
   unfold impl_SketchOk.l0
   repeat' first
   | (with_reducible exact ih0 _ _ _ _ _ _ _ _)
   | (with_reducible exact ih1 _ _ _ _ _ _ _ _ _ _ _)
   | (with_reducible exact ih2 _ _ _ _ _ _ _ _ _ _ _)
   | (with_reducible exact impl_counts.mono _ _ _ _ _ _ _ _)
   | (with_reducible exact LeO.refl _)
   | (with_reducible exact LeO.none _)
   | (with_reducible refine LeO.ite ?_ ?_)
   | (with_reducible refine LeO.bind ?_ (fun _ => ?_))
   | exact ih0 _ _ _ _ _ _ _ _
   | exact ih1 _ _ _ _ _ _ _ _ _ _ _
   | exact ih2 _ _ _ _ _ _ _ _ _ _ _
   | exact impl_counts.mono _ _ _ _ _ _ _ _
   | exact LeO.none _
   | refine LeO.ite ?_ ?_
   | refine LeO.bind ?_ (fun _ => ?_)
  ·intro y0 y1 y2 y3 y4 y5 y6 y7 y8 y9 y10
   unfold impl_SketchOk.l1
   repeat' first
   | (with_reducible exact ih0 _ _ _ _ _ _ _ _)
   | (with_reducible exact ih1 _ _ _ _ _ _ _ _ _ _ _)
   | (with_reducible exact ih2 _ _ _ _ _ _ _ _ _ _ _)
   | (with_reducible exact impl_counts.mono _ _ _ _ _ _ _ _)
   | (with_reducible exact LeO.refl _)
   | (with_reducible exact LeO.none _)
   | (with_reducible refine LeO.ite ?_ ?_)
   | (with_reducible refine LeO.bind ?_ (fun _ => ?_))
   | exact ih0 _ _ _ _ _ _ _ _
   | exact ih1 _ _ _ _ _ _ _ _ _ _ _
   | exact ih2 _ _ _ _ _ _ _ _ _ _ _
   | exact impl_counts.mono _ _ _ _ _ _ _ _
   | exact LeO.none _
   | refine LeO.ite ?_ ?_
   | refine LeO.bind ?_ (fun _ => ?_)
theorem impl_SketchOk.mono : ∀ a0 a1 a2 a3 a4 a5 a6 k, LeO (impl_SketchOk.f k a0 a1 a2 a3 a4 a5 a6) (impl_SketchOk.f (k + 1) a0 a1 a2 a3 a4 a5 a6) := by
 intro a0 a1 a2 a3 a4 a5 a6 k
 obtain ⟨ih0, ih1, ih2⟩ := impl_SketchOk.mono_l k
 unfold impl_SketchOk.f
 repeat' first
   | (with_reducible exact ih0 _ _ _ _ _ _ _ _)
   | (with_reducible exact ih1 _ _ _ _ _ _ _ _ _ _ _)
   | (with_reducible exact ih2 _ _ _ _ _ _ _ _ _ _ _)
   | (with_reducible exact impl_counts.mono _ _ _ _ _ _ _ _)
   | (with_reducible exact LeO.refl _)
   | (with_reducible exact LeO.none _)
   | (with_reducible refine LeO.ite ?_ ?_)
   | (with_reducible refine LeO.bind ?_ (fun _ => ?_))
   | exact ih0 _ _ _ _ _ _ _ _
   | exact ih1 _ _ _ _ _ _ _ _ _ _ _
   | exact ih2 _ _ _ _ _ _ _ _ _ _ _
   | exact impl_counts.mono _ _ _ _ _ _ _ _
   | exact LeO.none _
   | refine LeO.ite ?_ ?_
   | refine LeO.bind ?_ (fun _ => ?_)
def impl_SketchOk.T4 : Bool × List (List Nat × List Nat) := (true, [([], []), ([0], [0]), ([], []), ([2], [2]), ([], []), ([4], [4]), ([], []), ([6], [6]), ([], []), ([8], [8]), ([3, 5, 7, 9], [3, 5, 7, 9]), ([1, 10, 1], [1, 10]), ([11], [11]), ([], [])])
def impl_SketchOk.B4 : List Nat := [0, 1, 0, 4, 0, 16, 0, 64, 0, 256, 1020, 2047, 4095, 0]
theorem impl_SketchOk.tab4 : rtab .any (opsOf Try.f44 4) = impl_SketchOk.T4 := by kernel_rfl
theorem impl_SketchOk.bits4 : waitsOk impl_SketchOk.T4.2 impl_SketchOk.B4 = true := by kernel_rfl
set_option maxHeartbeats 8000000 in
set_option maxRecDepth 100000 in
theorem impl_SketchOk.calls (k : Nat) (a0_0 : Int) (a0_1 : Int) (a0_2 : Int) (a0_3 : Int) (A0_4 : Option Addr) (c0_4 : Nat) (l0_4 : List Int) (A0_5 : Option Addr) (c0_5 : Nat) (l0_5 : List Int) (A0_6 : Option Addr) (c0_6 : Nat) (l0_6 : List (List Int)) (r : Bool) (w : World) (hr0_4 : Kd.C (Kd.int .i64) w A0_4 l0_4.length l0_4) (hc0_4 : l0_4.length ≤ c0_4) (hr0_5 : Kd.C (Kd.int .i64) w A0_5 l0_5.length l0_5) (hc0_5 : l0_5.length ≤ c0_5) (hr0_6 : Kd.C (Kd.slice 3 (Kd.int .i64)) w A0_6 l0_6.length l0_6) (hc0_6 : l0_6.length ≤ c0_6) (h : impl_SketchOk.f k a0_0 a0_1 a0_2 a0_3 l0_4 l0_5 l0_6 = some r) :
  Calls Try.prog 44 #[.agg #[.int .i64 a0_0, .int .i64 a0_1, .int .i64 a0_2, .int .i64 a0_3, .slice A0_4 l0_4.length c0_4, .slice A0_5 l0_5.length c0_5, .slice A0_6 l0_6.length c0_6]] w fun e w' => e = .returned (.bool r) ∧ Below w.heap.size w w' := by
 have hu27 := Try.underlying27
 have HR0_4 := Aside0.mk hr0_4
 have HC0_4 := Aside0.mk hc0_4
 clear hr0_4 hc0_4
 have HR0_5 := Aside0.mk hr0_5
 have HC0_5 := Aside0.mk hc0_5
 clear hr0_5 hc0_5
 have HR0_6 := Aside0.mk hr0_6
 have HC0_6 := Aside0.mk hc0_6
 clear hr0_6 hc0_6
 have HB := Aside0.mk (Below.refl w.heap.size w)
 have H : (if (l0_4.length : Int) = 8 then (if (l0_5.length : Int) = 8 then (if (l0_6.length : Int) = 2 then (if 0 < (l0_6.length : Int) then (if ((rd_L2 l0_6 0).length : Int) = 4 then (if 1 < (l0_6.length : Int) then (impl_SketchOk.j0 k (((rd_L2 l0_6 1).length : Int) != 4) a0_0 a0_1 a0_2 a0_3 l0_4 l0_5 l0_6) else (none)) else (impl_SketchOk.j0 k true a0_0 a0_1 a0_2 a0_3 l0_4 l0_5 l0_6)) else (none)) else (impl_SketchOk.j0 k true a0_0 a0_1 a0_2 a0_3 l0_4 l0_5 l0_6)) else (impl_SketchOk.j0 k true a0_0 a0_1 a0_2 a0_3 l0_4 l0_5 l0_6)) else (impl_SketchOk.j0 k true a0_0 a0_1 a0_2 a0_3 l0_4 l0_5 l0_6)) = some r := h
 clear h
 have HC2 := Aside0.mk H
 clear H
 go_enter Try.func44, Try.ntmps44
 go_upto_region 1 with (first | ((with_reducible refine gate_dst (N := 1) rfl ?_); (try (refine gate_guard (by rfl) ?_; dsimp only)); refine box_event ?hg (N := 1) ?hd (cs := #[.int .i64 a0_0, .int .i64 a0_1, .int .i64 a0_2, .int .i64 a0_3, .slice A0_4 l0_4.length c0_4, .slice A0_5 l0_5.length c0_5, .slice A0_6 l0_6.length c0_6]) (t := 27) ?hr ?_; (case hd => rfl); (case hg => rfl); (case hr => first | (go_simp; done) | (go_simp; rfl)); intro gb323 hg w3 hbox hb; have n0_ := Aside0.mk (below_step Z8x6 hb); have n1_ := Aside0.mk (hbox); have n2_ := Aside0.mk ((by rw [hg]; exact (below_size Z8x6) : w.heap.size ≤ gb323)); have n3_ := Aside0.mk ((by rw [hg]; exact (below_size Z8x6) : w.heap.size ≤ gb323)); clear HB; have HB := n0_; have BK323 := n1_; have GW323 := n2_; have GE323 := n3_; clear n0_ n1_ n2_ n3_; clear hb hbox hg))
 (try simp only [Act.put, List.setIfInBounds_toArray, List.set_cons_zero, List.set_cons_succ])
 go_cut [39] (fun v39 wc => ∃ (kq : Nat) (x39_1 : Bool), v39 = .bool x39_1 ∧ Aside0 (impl_SketchOk.j0 kq x39_1 a0_0 a0_1 a0_2 a0_3 l0_4 l0_5 l0_6 = some r) ∧ Aside0 (kq ≤ k) ∧ Aside0 (wc.heap[gb323]? = some (.cells #[.int .i64 a0_0, .int .i64 a0_1, .int .i64 a0_2, .int .i64 a0_3, (.slice A0_4 l0_4.length c0_4), (.slice A0_5 l0_5.length c0_5), (.slice A0_6 l0_6.length c0_6)] 27 (0, 0))) ∧ Aside0 (Below w.heap.size w wc))
 case first =>
  have H := HC2.out
  clear HC2
  by_cases c4 : (l0_4.length : Int) = 8
  ·rw [if_pos c4] at H
   have c4b0 : ((l0_4.length : Int) == 8) = true := beq_iff_eq.mpr c4
   have c4b1 : ((l0_4.length : Int) != 8) = false := bne_eq_false_iff_eq.mpr c4
   clear c4
   (first | rw [c4b0] | (simp only [i64_w, i32_w]; rw [c4b0]) | rw [c4b1] | rw [c4b2] | rw [c4b3] | skip)
   by_cases c5 : (l0_5.length : Int) = 8
   ·rw [if_pos c5] at H
    have c5b0 : ((l0_5.length : Int) == 8) = true := beq_iff_eq.mpr c5;have c5b1 : ((l0_5.length : Int) != 8) = false := bne_eq_false_iff_eq.mpr c5;clear c5
    by_cases c6 : (l0_6.length : Int) = 2
    ·rw [if_pos c6] at H
     have c6b0 : ((l0_6.length : Int) == 2) = true := beq_iff_eq.mpr c6;have c6b1 : ((l0_6.length : Int) != 2) = false := bne_eq_false_iff_eq.mpr c6;clear c6
     by_cases c7 : 0 < (l0_6.length : Int)
     ·rw [if_pos c7] at H
      have c7b0 : decide (0 < (l0_6.length : Int)) = true := decide_eq_true c7
      (try (have c7b1 : decide (0 < l0_6.length) = true := decide_eq_true (by omega)))
      (try (have c7b2 : (0 < l0_6.length) = True := eq_true (by omega)))
      have c7b3 : decide (0 < l0_6.length) = true := decide_eq_true (by omega);clear c7
      by_cases c8 : ((rd_L2 l0_6 0).length : Int) = 4
      ·rw [if_pos c8] at H
       have c8b0 : (((rd_L2 l0_6 0).length : Int) == 4) = true := beq_iff_eq.mpr c8;have c8b1 : (((rd_L2 l0_6 0).length : Int) != 4) = false := bne_eq_false_iff_eq.mpr c8;clear c8
       by_cases c9 : 1 < (l0_6.length : Int)
       ·rw [if_pos c9] at H
        have c9b0 : decide (1 < (l0_6.length : Int)) = true := decide_eq_true c9
        (try (have c9b1 : decide (1 < l0_6.length) = true := decide_eq_true (by omega)))
        (try (have c9b2 : (1 < l0_6.length) = True := eq_true (by omega)))
        have c9b3 : decide (1 < l0_6.length) = true := decide_eq_true (by omega);clear c9;have H' := Aside0.mk H;clear H;obtain ⟨hcz10_0, hcz10_1, hcz10_2, hcz10_3, hcz10_4, hcz10_5, hcz10_6⟩ := cz7 BK323.out;obtain ⟨hfz10_0, hfz10_1, hfz10_2, hfz10_3, hfz10_4, hfz10_5, hfz10_6⟩ := fz7 BK323.out;have p324 : 0 ≤ (0 : Int) := (by omega);have q324 : 0 < (l0_6.length : Int) := of_decide_eq_true Z8x3;obtain ⟨ad324, A324_0, c324_0, e324, hx324_0, hl324_0, hi324_0⟩ := at_L2 HR0_6.out 0 p324 q324
        cases e324
        have qi324 : (0 < l0_6.length) = True := eq_true (by omega)
        (try rw [show ((0 : Int)).toNat = 0 from rfl] at hx324_0)
        (try rw [Addr.add_zero'] at hx324_0)
        replace hx324_0 := czB HB.out hx324_0;have HR324_0 := Aside0.mk hi324_0;have HC324_0 := Aside0.mk hl324_0;clear hi324_0 hl324_0;replace p324 := eq_true p324;replace q324 := eq_true q324;have p325 : 0 ≤ (1 : Int) := (by omega);have q325 : 1 < (l0_6.length : Int) := of_decide_eq_true Z8x3;obtain ⟨ad325, A325_0, c325_0, e325, hx325_0, hl325_0, hi325_0⟩ := at_L2 HR0_6.out 1 p325 q325;obtain rfl : ad324 = ad325 := (by injection e325)
        (try simp only [show (1 : Int).toNat = 1 from rfl, Nat.reduceMul, Nat.reduceEqDiff, Go.Addr.add, ↓reduceIte] at hx325_0)
        have qi325 : (1 < l0_6.length) = True := eq_true (by omega)
        (try rw [show ((1 : Int)).toNat = 1 from rfl] at hx325_0)
        replace hx325_0 := czB HB.out hx325_0;have HR325_0 := Aside0.mk hi325_0;have HC325_0 := Aside0.mk hl325_0;clear hi325_0 hl325_0;replace p325 := eq_true p325;replace q325 := eq_true q325
        go_wp2
        (first | go_meet | (refine Met.intro ?_; go_step; (repeat apply Exists.intro); refine ⟨?rel, ?eqs⟩; case eqs => ((try rw [show ((l0_4.length : Int) != 8) = true from by assumption]); (try rw [show ((l0_4.length : Int) != 8) = false from by assumption]); (try rw [show ((l0_5.length : Int) != 8) = true from by assumption]); (try rw [show ((l0_5.length : Int) != 8) = false from by assumption]); (try rw [show ((l0_6.length : Int) != 2) = true from by assumption]); (try rw [show ((l0_6.length : Int) != 2) = false from by assumption]); (try rw [show (((rd_L2 l0_6 0).length : Int) != 4) = true from by assumption]); (try rw [show (((rd_L2 l0_6 0).length : Int) != 4) = false from by assumption]); (try rw [show (((rd_L2 l0_6 1).length : Int) != 4) = true from by assumption]); (try rw [show (((rd_L2 l0_6 1).length : Int) != 4) = false from by assumption]); (try rfl))))
        case rel => exact ⟨_, ((((rd_L2 l0_6 1).length : Int) != 4)), Z8x4, H', ⟨by first | omega | exact Nat.le_refl _⟩, ⟨Z8x1⟩, ⟨Z8x0⟩⟩
       ·rw [if_neg c9] at H
        exact absurd H (by simp)
      ·rw [if_neg c8] at H
       have c8b0 : (((rd_L2 l0_6 0).length : Int) == 4) = false := beq_eq_false_iff_ne.mpr c8;have c8b1 : (((rd_L2 l0_6 0).length : Int) != 4) = true := bne_iff_ne.mpr c8;have H' := Aside0.mk H;clear H;obtain ⟨hcz11_0, hcz11_1, hcz11_2, hcz11_3, hcz11_4, hcz11_5, hcz11_6⟩ := cz7 BK323.out;obtain ⟨hfz11_0, hfz11_1, hfz11_2, hfz11_3, hfz11_4, hfz11_5, hfz11_6⟩ := fz7 BK323.out;have p324 : 0 ≤ (0 : Int) := (by omega);have q324 : 0 < (l0_6.length : Int) := of_decide_eq_true Z8x3;obtain ⟨ad324, A324_0, c324_0, e324, hx324_0, hl324_0, hi324_0⟩ := at_L2 HR0_6.out 0 p324 q324
       cases e324
       have qi324 : (0 < l0_6.length) = True := eq_true (by omega)
       (try rw [show ((0 : Int)).toNat = 0 from rfl] at hx324_0)
       (try rw [Addr.add_zero'] at hx324_0)
       replace hx324_0 := czB HB.out hx324_0;have HR324_0 := Aside0.mk hi324_0;have HC324_0 := Aside0.mk hl324_0;clear hi324_0 hl324_0;replace p324 := eq_true p324;replace q324 := eq_true q324
       go_wp2
       (first | go_meet | (refine Met.intro ?_; go_step; (repeat apply Exists.intro); refine ⟨?rel, ?eqs⟩; case eqs => ((try rw [show ((l0_4.length : Int) != 8) = true from by assumption]); (try rw [show ((l0_4.length : Int) != 8) = false from by assumption]); (try rw [show ((l0_5.length : Int) != 8) = true from by assumption]); (try rw [show ((l0_5.length : Int) != 8) = false from by assumption]); (try rw [show ((l0_6.length : Int) != 2) = true from by assumption]); (try rw [show ((l0_6.length : Int) != 2) = false from by assumption]); (try rw [show (((rd_L2 l0_6 0).length : Int) != 4) = true from by assumption]); (try rw [show (((rd_L2 l0_6 0).length : Int) != 4) = false from by assumption]); (try rfl))))
       case rel => exact ⟨_, (true), Z8x4, H', ⟨by first | omega | exact Nat.le_refl _⟩, ⟨Z8x1⟩, ⟨Z8x0⟩⟩
     ·rw [if_neg c7] at H
      exact absurd H (by simp)
    ·rw [if_neg c6] at H
     have c6b0 : ((l0_6.length : Int) == 2) = false := beq_eq_false_iff_ne.mpr c6;have c6b1 : ((l0_6.length : Int) != 2) = true := bne_iff_ne.mpr c6;have H' := Aside0.mk H;clear H;obtain ⟨hcz12_0, hcz12_1, hcz12_2, hcz12_3, hcz12_4, hcz12_5, hcz12_6⟩ := cz7 BK323.out;obtain ⟨hfz12_0, hfz12_1, hfz12_2, hfz12_3, hfz12_4, hfz12_5, hfz12_6⟩ := fz7 BK323.out
     go_wp2
     (first | go_meet | (refine Met.intro ?_; go_step; (repeat apply Exists.intro); refine ⟨?rel, ?eqs⟩; case eqs => ((try rw [show ((l0_4.length : Int) != 8) = true from by assumption]); (try rw [show ((l0_4.length : Int) != 8) = false from by assumption]); (try rw [show ((l0_5.length : Int) != 8) = true from by assumption]); (try rw [show ((l0_5.length : Int) != 8) = false from by assumption]); (try rw [show ((l0_6.length : Int) != 2) = true from by assumption]); (try rw [show ((l0_6.length : Int) != 2) = false from by assumption]); (try rfl))))
     case rel => exact ⟨_, (true), Z8x4, H', ⟨by first | omega | exact Nat.le_refl _⟩, ⟨Z8x1⟩, ⟨Z8x0⟩⟩
   ·rw [if_neg c5] at H
    have c5b0 : ((l0_5.length : Int) == 8) = false := beq_eq_false_iff_ne.mpr c5;have c5b1 : ((l0_5.length : Int) != 8) = true := bne_iff_ne.mpr c5;have H' := Aside0.mk H;clear H;obtain ⟨hcz13_0, hcz13_1, hcz13_2, hcz13_3, hcz13_4, hcz13_5, hcz13_6⟩ := cz7 BK323.out;obtain ⟨hfz13_0, hfz13_1, hfz13_2, hfz13_3, hfz13_4, hfz13_5, hfz13_6⟩ := fz7 BK323.out
    go_wp2
    (first | go_meet | (refine Met.intro ?_; go_step; (repeat apply Exists.intro); refine ⟨?rel, ?eqs⟩; case eqs => ((try rw [show ((l0_4.length : Int) != 8) = true from by assumption]); (try rw [show ((l0_4.length : Int) != 8) = false from by assumption]); (try rw [show ((l0_5.length : Int) != 8) = true from by assumption]); (try rw [show ((l0_5.length : Int) != 8) = false from by assumption]); (try rfl))))
    case rel => exact ⟨_, (true), Z8x4, H', ⟨by first | omega | exact Nat.le_refl _⟩, ⟨Z8x1⟩, ⟨Z8x0⟩⟩
  ·rw [if_neg c4] at H
   have c4b0 : ((l0_4.length : Int) == 8) = false := beq_eq_false_iff_ne.mpr c4
   have c4b1 : ((l0_4.length : Int) != 8) = true := bne_iff_ne.mpr c4
   (first | rw [c4b0] | (simp only [i64_w, i32_w]; rw [c4b0]) | rw [c4b1] | rw [c4b2] | rw [c4b3] | skip)
   have H' := Aside0.mk H
   clear H
   obtain ⟨hcz14_0, hcz14_1, hcz14_2, hcz14_3, hcz14_4, hcz14_5, hcz14_6⟩ := cz7 BK323.out
   obtain ⟨hfz14_0, hfz14_1, hfz14_2, hfz14_3, hfz14_4, hfz14_5, hfz14_6⟩ := fz7 BK323.out
   go_wp2
   (first | go_meet | (refine Met.intro ?_; go_step; (repeat apply Exists.intro); refine ⟨?rel, ?eqs⟩; case eqs => ((try rw [show ((l0_4.length : Int) != 8) = true from by assumption]); (try rw [show ((l0_4.length : Int) != 8) = false from by assumption]); (try rfl))))
   case rel => exact ⟨_, (true), Z8x4, H', ⟨by first | omega | exact Nat.le_refl _⟩, ⟨Z8x1⟩, ⟨Z8x0⟩⟩
 case rest =>
  clear HC2
  try clear p2
  try clear c3
  try clear p3
  try clear q3
  try clear hx3
  try clear qi3
  try clear c4
  try clear c4b0
  try clear c4b1
  try clear c4b2
  try clear c5
  try clear c5b0
  try clear c5b1
  try clear c6
  try clear c6b0
  try clear c6b1
  try clear c7
  try clear c7b0
  try clear c7b1
  try clear c7b2
  try clear c8
  try clear c8b0
  try clear c8b1
  try clear c9
  try clear c9b0
  try clear c9b1
  try clear c9b2
  try clear hcz10_0 hcz10_1 hcz10_2 hcz10_3 hcz10_4 hcz10_5 hcz10_6
  try clear hcz11_0 hcz11_1 hcz11_2 hcz11_3 hcz11_4 hcz11_5 hcz11_6
  try clear hcz12_0 hcz12_1 hcz12_2 hcz12_3 hcz12_4 hcz12_5 hcz12_6
  try clear hcz13_0 hcz13_1 hcz13_2 hcz13_3 hcz13_4 hcz13_5 hcz13_6
  try clear hcz14_0 hcz14_1 hcz14_2 hcz14_3 hcz14_4 hcz14_5 hcz14_6
  try clear hfz10_0 hfz10_1 hfz10_2 hfz10_3 hfz10_4 hfz10_5 hfz10_6
  try clear hfz11_0 hfz11_1 hfz11_2 hfz11_3 hfz11_4 hfz11_5 hfz11_6
  try clear hfz12_0 hfz12_1 hfz12_2 hfz12_3 hfz12_4 hfz12_5 hfz12_6
  try clear hfz13_0 hfz13_1 hfz13_2 hfz13_3 hfz13_4 hfz13_5 hfz13_6
  try clear hfz14_0 hfz14_1 hfz14_2 hfz14_3 hfz14_4 hfz14_5 hfz14_6
  try clear hx324_0
  try clear hx325_0
  try clear p324
  try clear p325
  try clear q324
  try clear q325
  obtain ⟨kq, x39_1, rfl, HA, HJ1, BK323, HB⟩ := hcut
  cases kq with
  | zero => exact absurd HA.out (by simp [impl_SketchOk.j0])
  | succ kj1 =>
   have H := HA.out
   clear HA
   simp only [impl_SketchOk.j0] at H
   by_cases c15 : x39_1 = true
   ·subst c15
    have H1 : (some false) = some r := by rw [if_pos rfl] at H; exact H
    clear H;have H := H1;clear H1;obtain rfl := Option.some.inj H;simp only [Option.some.injEq, Prod.mk.injEq] at H;obtain ⟨rfl⟩ := H
    go_wp2
    go_ret
    exact ⟨Z8x2, Z8x0⟩
   ·replace c15 := Bool.eq_false_iff.mpr c15
    subst c15
    have H1 : ((impl_counts.f kj1 a0_0 a0_1 a0_2 a0_3 l0_4 l0_5 l0_6).bind fun t326 => ((some (([a0_0, a0_1, a0_2, a0_3] : List Int) : List Int)).bind fun y329 => (if t326.length + y329.length < 17592186044416 then ((some (t326 ++ y329 : List Int)).bind fun y332 => (impl_SketchOk.l0 kj1 0 y332 (y332.length : Int) 0 a0_0 a0_1 a0_2 a0_3 l0_4 l0_5 l0_6)) else (none)))) = some r := by rw [if_neg (show ¬ (false = true) by decide)] at H; exact H
    clear H;have H := H1;clear H1;replace H := Option.bind_eq_some_iff.mp H;obtain ⟨t326, A160, H⟩ := H;replace H : ((some (([a0_0, a0_1, a0_2, a0_3] : List Int) : List Int)).bind fun y329 => (if t326.length + y329.length < 17592186044416 then ((some (t326 ++ y329 : List Int)).bind fun y332 => (impl_SketchOk.l0 kj1 0 y332 (y332.length : Int) 0 a0_0 a0_1 a0_2 a0_3 l0_4 l0_5 l0_6)) else (none))) = some r := H;have A16 := Aside0.mk A160;clear A160;obtain ⟨y329, hy329⟩ : ∃ y_ : List Int, y_ = (([a0_0, a0_1, a0_2, a0_3] : List Int)) := ⟨_, rfl⟩
    replace H : (if t326.length + y329.length < 17592186044416 then ((some (t326 ++ y329 : List Int)).bind fun y332 => (impl_SketchOk.l0 kj1 0 y332 (y332.length : Int) 0 a0_0 a0_1 a0_2 a0_3 l0_4 l0_5 l0_6)) else (none)) = some r := by first | (rw [hy329]; with_reducible exact H) | (have H2_ := (Option.bind_some _ _).symm.trans H; rw [hy329]; with_reducible exact H2_) | (have H2_ := (Option.bind_some _ _).symm.trans H; with_reducible exact H2_) | with_reducible exact H | (rw [hy329]; exact H) | exact H
    have Ny329 := Aside0.mk hy329;clear hy329
    by_cases c17 : t326.length + y329.length < 17592186044416
    ·rw [if_pos c17] at H
     have LMc17 := Aside0.mk c17;clear c17;obtain ⟨y332, hy332⟩ : ∃ y_ : List Int, y_ = (t326 ++ y329) := ⟨_, rfl⟩
     replace H : (impl_SketchOk.l0 kj1 0 y332 (y332.length : Int) 0 a0_0 a0_1 a0_2 a0_3 l0_4 l0_5 l0_6) = some r := by first | (rw [hy332]; with_reducible exact H) | (have H2_ := (Option.bind_some _ _).symm.trans H; rw [hy332]; with_reducible exact H2_) | (have H2_ := (Option.bind_some _ _).symm.trans H; with_reducible exact H2_) | with_reducible exact H | (rw [hy332]; exact H) | exact H
     have Ny332 := Aside0.mk hy332;clear hy332;have H' := Aside0.mk H;clear H
     try go_wp2
     have n0_ := Aside0.mk (blk_drew BK323.out);have n1_ := Aside0.mk (below_drew1 HB.out);clear BK323;clear HB;have BK323 := n0_;have HB := n1_;clear n0_ n1_;refine start_ (n := 14) (S := fun w' => w'.cell? ⟨gb323, 0, none⟩ = some (.int .i64 a0_0) ∧ w'.cell? ⟨gb323, 1, none⟩ = some (.int .i64 a0_1) ∧ w'.cell? ⟨gb323, 2, none⟩ = some (.int .i64 a0_2) ∧ w'.cell? ⟨gb323, 3, none⟩ = some (.int .i64 a0_3) ∧ w'.cell? ⟨gb323, 4, none⟩ = some (.slice A0_4 l0_4.length c0_4) ∧ w'.cell? ⟨gb323, 5, none⟩ = some (.slice A0_5 l0_5.length c0_5) ∧ w'.cell? ⟨gb323, 6, none⟩ = some (.slice A0_6 l0_6.length c0_6)) (ds := []) #[false, false, false, false, false, false, false, false, false, false, false, false, false, false] (by kernel_rfl) rfl rfl ⟨(blk_cell BK323.out 0).trans rfl, (blk_cell BK323.out 1).trans rfl, (blk_cell BK323.out 2).trans rfl, (blk_cell BK323.out 3).trans rfl, (blk_cell BK323.out 4).trans rfl, (blk_cell BK323.out 5).trans rfl, (blk_cell BK323.out 6).trans rfl⟩ (fun hHeld => ?_); refine with_tabW impl_SketchOk.tab4 impl_SketchOk.bits4 (fun HT_ HW_ => ?_);generalize wc.drew = w18 at BK323 HB hHeld ⊢;refine pure_ (i := 2) (N := some 42) (v := ?_) (a' := ?_) #[false, false, true, false, false, false, false, false, false, false, false, false, false, false] rfl rfl (any_of HT_.out (by kernel_rfl)) (fun _ _ _ h => h) (Or.inl ⟨by rfl, ?_⟩) ?_ ?_
     rotate_left
     ·intro w'
      go_simp
      with_reducible rfl
     rotate_left
     ·simp only [czP]
      rfl
     refine pure_ (i := 4) (N := some 44) (v := ?_) (a' := ?_) #[false, false, true, false, true, false, false, false, false, false, false, false, false, false] rfl rfl (any_of HT_.out (by kernel_rfl)) (fun _ _ _ h => h) (Or.inl ⟨by rfl, ?_⟩) ?_ ?_
     rotate_left
     ·intro w'
      go_simp
      with_reducible rfl
     rotate_left
     ·simp only [czP]
      rfl
     refine pure_ (i := 6) (N := some 46) (v := ?_) (a' := ?_) #[false, false, true, false, true, false, true, false, false, false, false, false, false, false] rfl rfl (any_of HT_.out (by kernel_rfl)) (fun _ _ _ h => h) (Or.inl ⟨by rfl, ?_⟩) ?_ ?_
     rotate_left
     ·intro w'
      go_simp
      with_reducible rfl
     rotate_left
     ·simp only [czP]
      rfl
     refine pure_ (i := 8) (N := some 48) (v := ?_) (a' := ?_) #[false, false, true, false, true, false, true, false, true, false, false, false, false, false] rfl rfl (any_of HT_.out (by kernel_rfl)) (fun _ _ _ h => h) (Or.inl ⟨by rfl, ?_⟩) ?_ ?_
     rotate_left
     ·intro w'
      go_simp
      with_reducible rfl
     rotate_left
     ·simp only [czP]
      rfl
     refine pure_ (i := 13) (N := some 53) (v := ?_) (a' := ?_) #[false, false, true, false, true, false, true, false, true, false, false, false, false, true] rfl rfl (any_of HT_.out (by kernel_rfl)) (fun _ _ _ h => h) (Or.inl ⟨by rfl, ?_⟩) ?_ ?_
     rotate_left
     ·intro w'
      go_simp
      with_reducible rfl
     rotate_left
     ·simp only [czP]
      rfl
     refine take_ (i := 0) (N := some 40) (v := ?_) (a' := ?_) #[true, false, true, false, true, false, true, false, true, false, false, false, false, true] rfl rfl (take_ofW HT_.out HW_.out (by kernel_rfl)) (fun _ _ _ h => h) (Or.inl ⟨by rfl, ?_⟩) hHeld ?_ ?_
     rotate_left
     ·rintro w' ⟨s0, s1, s2, s3, s4, s5, s6⟩
      go_simp
      with_reducible rfl
     rotate_left
     ·simp only [czP]
      rfl
     refine take_ (i := 3) (N := some 43) (v := ?_) (a' := ?_) #[true, false, true, true, true, false, true, false, true, false, false, false, false, true] rfl rfl (take_ofW HT_.out HW_.out (by kernel_rfl)) (fun _ _ _ h => h) (Or.inl ⟨by rfl, ?_⟩) hHeld ?_ ?_
     rotate_left
     ·rintro w' ⟨s0, s1, s2, s3, s4, s5, s6⟩
      go_simp
      with_reducible rfl
     rotate_left
     ·simp only [czP]
      rfl
     refine take_ (i := 5) (N := some 45) (v := ?_) (a' := ?_) #[true, false, true, true, true, true, true, false, true, false, false, false, false, true] rfl rfl (take_ofW HT_.out HW_.out (by kernel_rfl)) (fun _ _ _ h => h) (Or.inl ⟨by rfl, ?_⟩) hHeld ?_ ?_
     rotate_left
     ·rintro w' ⟨s0, s1, s2, s3, s4, s5, s6⟩
      go_simp
      with_reducible rfl
     rotate_left
     ·simp only [czP]
      rfl
     refine take_ (i := 7) (N := some 47) (v := ?_) (a' := ?_) #[true, false, true, true, true, true, true, true, true, false, false, false, false, true] rfl rfl (take_ofW HT_.out HW_.out (by kernel_rfl)) (fun _ _ _ h => h) (Or.inl ⟨by rfl, ?_⟩) hHeld ?_ ?_
     rotate_left
     ·rintro w' ⟨s0, s1, s2, s3, s4, s5, s6⟩
      go_simp
      with_reducible rfl
     rotate_left
     ·simp only [czP]
      rfl
     refine take_ (i := 9) (N := some 49) (v := ?_) (a' := ?_) #[true, false, true, true, true, true, true, true, true, true, false, false, false, true] rfl rfl (take_ofW HT_.out HW_.out (by kernel_rfl)) (fun _ _ _ h => h) (Or.inl ⟨by rfl, ?_⟩) hHeld ?_ ?_
     rotate_left
     ·rintro w' ⟨s0, s1, s2, s3, s4, s5, s6⟩
      go_simp
      with_reducible rfl
     rotate_left
     ·simp only [czP]
      rfl
     refine join_ (σ := Value × Value) 2 #[true, true, true, true, true, true, true, true, true, true, true, false, false, true] (fun s_ => [(41, s_.1), (50, s_.2)]) (fun s_ w' => (w'.cell? ⟨gb323, 0, none⟩ = some (.int .i64 a0_0) ∧ w'.cell? ⟨gb323, 1, none⟩ = some (.int .i64 a0_1) ∧ w'.cell? ⟨gb323, 2, none⟩ = some (.int .i64 a0_2) ∧ w'.cell? ⟨gb323, 3, none⟩ = some (.int .i64 a0_3) ∧ w'.cell? ⟨gb323, 4, none⟩ = some (.slice A0_4 l0_4.length c0_4) ∧ w'.cell? ⟨gb323, 5, none⟩ = some (.slice A0_5 l0_5.length c0_5) ∧ w'.cell? ⟨gb323, 6, none⟩ = some (.slice A0_6 l0_6.length c0_6)) ∧ (Kd.R (Kd.int .i64) 3 w' w.heap.size (fun k_ => some k_ ≠ (s_.2 : Value).ownBlock) s_.1 t326) ∧ (Kd.R (Kd.int .i64) 3 w' w.heap.size (fun k_ => some k_ ≠ (s_.1 : Value).ownBlock) s_.2 y329) ∧ (w'.heap[gb323]? = some (.cells #[.int .i64 a0_0, .int .i64 a0_1, .int .i64 a0_2, .int .i64 a0_3, .slice A0_4 l0_4.length c0_4, .slice A0_5 l0_5.length c0_5, .slice A0_6 l0_6.length c0_6] 27 (0, 0))) ∧ (Below w.heap.size w w')) ?_ ?_
     rotate_left
     ·intro hCont
      refine two_ (i := 1) (j := 10) (Ni := some 41) (Nj := some 50) #[true, true, true, true, true, true, true, true, true, true, false, false, false, true] #[true, false, true, true, true, true, true, true, true, true, true, false, false, true] rfl rfl rfl rfl (two_of HT_.out (by kernel_rfl)) (by decide) (by decide) (fun K hK => ?_) (fun K hK => ?_)
      ·skip
       refine goes_ Try.func65 (by kernel_rfl) rfl #[.agg #[.int .i64 a0_0, .int .i64 a0_1, .int .i64 a0_2, .int .i64 a0_3, .slice A0_4 l0_4.length c0_4, .slice A0_5 l0_5.length c0_5, .slice A0_6 l0_6.length c0_6]] (by rfl) rfl rfl Z8x5 ?_
       with_reducible refine (impl_counts.calls kj1 a0_0 a0_1 a0_2 a0_3 _ _ l0_4 _ _ l0_5 _ _ l0_6 t326 _ ?side1 ?side2 ?side3 ?side4 ?side5 ?side6 A16.out).mono ?_
       (case side1 => repeat (first | exact (Kd.C_below HR0_4.out HB.out) | (with_reducible refine Kd.C_alloc ?_ _) | (with_reducible refine Kd.C_drewN ?_ _) | (with_reducible refine Kd.C_drew ?_)))
       (case side2 => exact HC0_4.out)
       (case side3 => repeat (first | exact (Kd.C_below HR0_5.out HB.out) | (with_reducible refine Kd.C_alloc ?_ _) | (with_reducible refine Kd.C_drewN ?_ _) | (with_reducible refine Kd.C_drew ?_)))
       (case side4 => exact HC0_5.out)
       (case side5 => repeat (first | exact (Kd.C_below HR0_6.out HB.out) | (with_reducible refine Kd.C_alloc ?_ _) | (with_reducible refine Kd.C_drewN ?_ _) | (with_reducible refine Kd.C_drew ?_)))
       (case side6 => exact HC0_6.out)
       rintro e w19 ⟨v327, rfl, ho0, hb⟩
       refine ⟨_, rfl, ?_⟩;have n0_ := Aside0.mk (Kd.R_lower ho0 (below_size Z8x0));have n1_ := Aside0.mk (blk_below (g := gb323) (o := .cells #[.int .i64 a0_0, .int .i64 a0_1, .int .i64 a0_2, .int .i64 a0_3, .slice A0_4 l0_4.length c0_4, .slice A0_5 l0_5.length c0_5, .slice A0_6 l0_6.length c0_6] 27 (0, 0)) Z8x1 hb);have n2_ := Aside0.mk (below_step Z8x0 hb);clear BK323;clear HB;have HO328 := n0_;have BK323 := n1_;have HB := n2_;clear n0_ n1_ n2_
       (try clear hb)
       (try clear hb2)
       (try clear hk)
       (try clear hi)
       (try clear ho0)
       refine hK.out _ _ ⟨(blk_cell BK323.out 0).trans rfl, (blk_cell BK323.out 1).trans rfl, (blk_cell BK323.out 2).trans rfl, (blk_cell BK323.out 3).trans rfl, (blk_cell BK323.out 4).trans rfl, (blk_cell BK323.out 5).trans rfl, (blk_cell BK323.out 6).trans rfl⟩ (fun hHeld => ?_);clear hK K;refine norm_ (a' := ?_) ?_ ?_
       rotate_left
       ·show Act.put _ (some 41) _ = _
        simp only [czP]
        rfl
       refine one_ (i := 10) (N := some 50) #[true, true, true, true, true, true, true, true, true, true, true, false, false, true] rfl rfl (one_of HT_.out (by kernel_rfl)) (by decide) (fun K hK => ?_);refine Kd.R_lit_step (Kd.int .i64) _ 3 ?hg (N := 50) ?hd (xs := ([a0_0, a0_1, a0_2, a0_3] : List Int)) (inner := [.int .i64 a0_0, .int .i64 a0_1, .int .i64 a0_2, .int .i64 a0_3]) (ok := fun _ => True) (okp := fun _ => True) ?hr ?hp (fun _ hk => hk) trivial (Below.refl _ _) (Nat.le_refl _) (by simp) ?_; (case hd => rfl); (case hg => rfl); (case hr => first | (go_simp; done) | (go_simp; rfl)); (case hp => exact (Reps.one (show Kd.M (Kd.int .i64) _ _ _ a0_0 [.int .i64 a0_0] from rfl) (Reps.one (show Kd.M (Kd.int .i64) _ _ _ a0_1 [.int .i64 a0_1] from rfl) (Reps.one (show Kd.M (Kd.int .i64) _ _ _ a0_2 [.int .i64 a0_2] from rfl) (Reps.one (show Kd.M (Kd.int .i64) _ _ _ a0_3 [.int .i64 a0_3] from rfl) (Reps.none _ _))))));intro v330 w20 ho21 hb hg_ hnew_;clear hg_ hnew_
       (first | rw [← Ny329.out] at ho21 | (simp only [Int.reduceToNat] at ho21; rw [← Ny329.out] at ho21))
       have n0_ := Aside0.mk (Kd.R_elder' (by (with_reducible repeat (first | apply Kd.R_alloc | apply Kd.R_drewN | apply Kd.R_drew)); exact HO328.out) (Kd.R_base ho21) hb);have n1_ := Aside0.mk (Kd.R_lower (Kd.R_new' ho21 (Kd.R_lt (by (with_reducible repeat (first | apply Kd.R_alloc | apply Kd.R_drewN | apply Kd.R_drew)); exact HO328.out))) (below_size Z8x0));have n2_ := Aside0.mk (blk_below (g := gb323) (o := .cells #[.int .i64 a0_0, .int .i64 a0_1, .int .i64 a0_2, .int .i64 a0_3, .slice A0_4 l0_4.length c0_4, .slice A0_5 l0_5.length c0_5, .slice A0_6 l0_6.length c0_6] 27 (0, 0)) Z8x1 hb);have n3_ := Aside0.mk (below_step Z8x0 hb);clear HO328;clear BK323;clear HB;have HO328 := n0_;have HO331 := n1_;have BK323 := n2_;have HB := n3_;clear n0_ n1_ n2_ n3_;clear hb ho21;refine hK.out _ _ ⟨(blk_cell BK323.out 0).trans rfl, (blk_cell BK323.out 1).trans rfl, (blk_cell BK323.out 2).trans rfl, (blk_cell BK323.out 3).trans rfl, (blk_cell BK323.out 4).trans rfl, (blk_cell BK323.out 5).trans rfl, (blk_cell BK323.out 6).trans rfl⟩ (fun hHeld => ?_);clear hK K;refine norm_ (a' := ?_) ?_ ?_
       rotate_left
       ·show Act.put _ (some 50) _ = _
        simp only [czP]
        rfl
       exact norm_ (by simp only [putAll, Act.put, List.setIfInBounds_toArray, List.set_cons_zero, List.set_cons_succ]) (hCont (v327, v330) _ ⟨hHeld, (by (with_reducible repeat (first | apply Kd.R_alloc | apply Kd.R_drewN | apply Kd.R_drew)); exact Kd.R_mono HO328.out (fun _ hk => hk.2)), (by (with_reducible repeat (first | apply Kd.R_alloc | apply Kd.R_drewN | apply Kd.R_drew)); exact Kd.R_mono HO331.out (fun _ hk => hk.2)), Z8x1, Z8x0⟩)
      ·skip
       refine Kd.R_lit_step (Kd.int .i64) _ 3 ?hg (N := 50) ?hd (xs := ([a0_0, a0_1, a0_2, a0_3] : List Int)) (inner := [.int .i64 a0_0, .int .i64 a0_1, .int .i64 a0_2, .int .i64 a0_3]) (ok := fun _ => True) (okp := fun _ => True) ?hr ?hp (fun _ hk => hk) trivial (Below.refl _ _) (Nat.le_refl _) (by simp) ?_; (case hd => rfl); (case hg => rfl); (case hr => first | (go_simp; done) | (go_simp; rfl)); (case hp => exact (Reps.one (show Kd.M (Kd.int .i64) _ _ _ a0_0 [.int .i64 a0_0] from rfl) (Reps.one (show Kd.M (Kd.int .i64) _ _ _ a0_1 [.int .i64 a0_1] from rfl) (Reps.one (show Kd.M (Kd.int .i64) _ _ _ a0_2 [.int .i64 a0_2] from rfl) (Reps.one (show Kd.M (Kd.int .i64) _ _ _ a0_3 [.int .i64 a0_3] from rfl) (Reps.none _ _))))));intro v330 w19 ho20 hb hg_ hnew_;clear hg_ hnew_
       (first | rw [← Ny329.out] at ho20 | (simp only [Int.reduceToNat] at ho20; rw [← Ny329.out] at ho20))
       have n0_ := Aside0.mk (Kd.R_lower ho20 (below_size Z8x0));have n1_ := Aside0.mk (blk_below (g := gb323) (o := .cells #[.int .i64 a0_0, .int .i64 a0_1, .int .i64 a0_2, .int .i64 a0_3, .slice A0_4 l0_4.length c0_4, .slice A0_5 l0_5.length c0_5, .slice A0_6 l0_6.length c0_6] 27 (0, 0)) Z8x1 hb);have n2_ := Aside0.mk (below_step Z8x0 hb);clear BK323;clear HB;have HO331 := n0_;have BK323 := n1_;have HB := n2_;clear n0_ n1_ n2_;clear hb ho20;refine hK.out _ _ ⟨(blk_cell BK323.out 0).trans rfl, (blk_cell BK323.out 1).trans rfl, (blk_cell BK323.out 2).trans rfl, (blk_cell BK323.out 3).trans rfl, (blk_cell BK323.out 4).trans rfl, (blk_cell BK323.out 5).trans rfl, (blk_cell BK323.out 6).trans rfl⟩ (fun hHeld => ?_);clear hK K;refine norm_ (a' := ?_) ?_ ?_
       rotate_left
       ·show Act.put _ (some 50) _ = _
        simp only [czP]
        rfl
       refine one_ (i := 1) (N := some 41) #[true, true, true, true, true, true, true, true, true, true, true, false, false, true] rfl rfl (one_of HT_.out (by kernel_rfl)) (by decide) (fun K hK => ?_);refine goes_ Try.func65 (by kernel_rfl) rfl #[.agg #[.int .i64 a0_0, .int .i64 a0_1, .int .i64 a0_2, .int .i64 a0_3, .slice A0_4 l0_4.length c0_4, .slice A0_5 l0_5.length c0_5, .slice A0_6 l0_6.length c0_6]] (by rfl) rfl rfl Z8x5 ?_
       with_reducible refine (impl_counts.calls kj1 a0_0 a0_1 a0_2 a0_3 _ _ l0_4 _ _ l0_5 _ _ l0_6 t326 _ ?side1 ?side2 ?side3 ?side4 ?side5 ?side6 A16.out).mono ?_
       (case side1 => repeat (first | exact (Kd.C_below HR0_4.out HB.out) | (with_reducible refine Kd.C_alloc ?_ _) | (with_reducible refine Kd.C_drewN ?_ _) | (with_reducible refine Kd.C_drew ?_)))
       (case side2 => exact HC0_4.out)
       (case side3 => repeat (first | exact (Kd.C_below HR0_5.out HB.out) | (with_reducible refine Kd.C_alloc ?_ _) | (with_reducible refine Kd.C_drewN ?_ _) | (with_reducible refine Kd.C_drew ?_)))
       (case side4 => exact HC0_5.out)
       (case side5 => repeat (first | exact (Kd.C_below HR0_6.out HB.out) | (with_reducible refine Kd.C_alloc ?_ _) | (with_reducible refine Kd.C_drewN ?_ _) | (with_reducible refine Kd.C_drew ?_)))
       (case side6 => exact HC0_6.out)
       rintro e w21 ⟨v327, rfl, ho0, hb⟩
       refine ⟨_, rfl, ?_⟩;have n0_ := Aside0.mk (Kd.R_elder' (by (with_reducible repeat (first | apply Kd.R_alloc | apply Kd.R_drewN | apply Kd.R_drew)); exact HO331.out) (Kd.R_base ho0) hb);have n1_ := Aside0.mk (Kd.R_lower (Kd.R_new' ho0 (Kd.R_lt (by (with_reducible repeat (first | apply Kd.R_alloc | apply Kd.R_drewN | apply Kd.R_drew)); exact HO331.out))) (below_size Z8x0));have n2_ := Aside0.mk (blk_below (g := gb323) (o := .cells #[.int .i64 a0_0, .int .i64 a0_1, .int .i64 a0_2, .int .i64 a0_3, .slice A0_4 l0_4.length c0_4, .slice A0_5 l0_5.length c0_5, .slice A0_6 l0_6.length c0_6] 27 (0, 0)) Z8x1 hb);have n3_ := Aside0.mk (below_step Z8x0 hb);clear HO331;clear BK323;clear HB;have HO331 := n0_;have HO328 := n1_;have BK323 := n2_;have HB := n3_;clear n0_ n1_ n2_ n3_
       (try clear hb)
       (try clear hb2)
       (try clear hk)
       (try clear hi)
       (try clear ho0)
       refine hK.out _ _ ⟨(blk_cell BK323.out 0).trans rfl, (blk_cell BK323.out 1).trans rfl, (blk_cell BK323.out 2).trans rfl, (blk_cell BK323.out 3).trans rfl, (blk_cell BK323.out 4).trans rfl, (blk_cell BK323.out 5).trans rfl, (blk_cell BK323.out 6).trans rfl⟩ (fun hHeld => ?_);clear hK K;refine norm_ (a' := ?_) ?_ ?_
       rotate_left
       ·show Act.put _ (some 41) _ = _
        simp only [czP]
        rfl
       exact norm_ (by simp only [putAll, Act.put, List.setIfInBounds_toArray, List.set_cons_zero, List.set_cons_succ]) (hCont (v327, v330) _ ⟨hHeld, (by (with_reducible repeat (first | apply Kd.R_alloc | apply Kd.R_drewN | apply Kd.R_drew)); exact Kd.R_mono HO328.out (fun _ hk => hk.2)), (by (with_reducible repeat (first | apply Kd.R_alloc | apply Kd.R_drewN | apply Kd.R_drew)); exact Kd.R_mono HO331.out (fun _ hk => hk.2)), Z8x1, Z8x0⟩)
     rintro ⟨v327, v330⟩ w22 ⟨hS_, h0_, h1_, h2_, h3_⟩
     have n0_ : Aside0 (Kd.R (Kd.int .i64) 3 w22 w.heap.size (fun k_ => some k_ ≠ (v330 : Value).ownBlock) v327 t326) := ⟨h0_⟩;have n1_ : Aside0 (Kd.R (Kd.int .i64) 3 w22 w.heap.size (fun k_ => some k_ ≠ (v327 : Value).ownBlock) v330 y329) := ⟨h1_⟩;have n2_ : Aside0 (w22.heap[gb323]? = some (.cells #[.int .i64 a0_0, .int .i64 a0_1, .int .i64 a0_2, .int .i64 a0_3, .slice A0_4 l0_4.length c0_4, .slice A0_5 l0_5.length c0_5, .slice A0_6 l0_6.length c0_6] 27 (0, 0))) := ⟨h2_⟩;have n3_ : Aside0 (Below w.heap.size w w22) := ⟨h3_⟩;clear BK323;clear HB;clear h0_ h1_ h2_ h3_;have HO328 := n0_;have HO331 := n1_;have BK323 := n2_;have HB := n3_;clear n0_ n1_ n2_ n3_;have hHeld : w22.cell? ⟨gb323, 0, none⟩ = some (.int .i64 a0_0) ∧ w22.cell? ⟨gb323, 1, none⟩ = some (.int .i64 a0_1) ∧ w22.cell? ⟨gb323, 2, none⟩ = some (.int .i64 a0_2) ∧ w22.cell? ⟨gb323, 3, none⟩ = some (.int .i64 a0_3) ∧ w22.cell? ⟨gb323, 4, none⟩ = some (.slice A0_4 l0_4.length c0_4) ∧ w22.cell? ⟨gb323, 5, none⟩ = some (.slice A0_5 l0_5.length c0_5) ∧ w22.cell? ⟨gb323, 6, none⟩ = some (.slice A0_6 l0_6.length c0_6) := hS_;obtain ⟨Ao24, co24, eo24⟩ := Kd.R_slice HO331.out
     (first | subst eo24 | (injection eo24 with f1_ f2_ f3_; have f4_ := f1_.symm; have f5_ := f3_.symm; clear f1_ f2_ f3_; subst f4_; subst f5_))
     refine norm_ (a' := ?_) ?_ ?_
     rotate_left
     ·simp only [putAll, Act.put, List.setIfInBounds_toArray, List.set_cons_zero, List.set_cons_succ]
      rfl
     refine one_ (i := 11) (N := some 51) #[true, true, true, true, true, true, true, true, true, true, true, true, false, true] rfl rfl (one_of HT_.out (by kernel_rfl)) (by decide) (fun K hK => ?_);refine Kd.R_append_rows_step (Kd.int .i64) (w0 := w) w.heap.size (by rfl) (.tmp 41) (.tmp 50) 24 3 (.int .i64 0) 8 rfl Try.underlying24 info3 rfl (by decide) (by omega) v327 t326 y329 _ _ _ (fun k_ => some k_ ≠ (.slice Ao24 y329.length co24 : Value).ownBlock) (fun _ => False) rfl rfl ?aO ?aR (fun _ _ h => h) (fun _ h => h.elim) ?aF ?aB ?aS ?aL ?_
     (case aR => repeat (first | exact (Kd.R_reads' HO331.out).2.2 | (with_reducible refine Kd.C_alloc ?_ _) | (with_reducible refine Kd.C_drewN ?_ _) | (with_reducible refine Kd.C_drew ?_)))
     (case aB => exact Z8x0)
     (case aF => exact (fun k_ hk => Kd.fresh' (Kd.R_lt (by (with_reducible repeat (first | apply Kd.R_alloc | apply Kd.R_drewN | apply Kd.R_drew)); exact HO331.out)) k_ hk))
     (case aO => exact (by (with_reducible repeat (first | apply Kd.R_alloc | apply Kd.R_drewN | apply Kd.R_drew)); exact HO328.out))
     (case aS => exact (below_size Z8x0))
     (case aL => have := LMc17.out; omega)
     intro v333 w23 ho hb hg hat;rw [← Ny332.out] at ho;have n0_ := Aside0.mk (blk_grown (g := gb323) (o := .cells #[.int .i64 a0_0, .int .i64 a0_1, .int .i64 a0_2, .int .i64 a0_3, .slice A0_4 l0_4.length c0_4, .slice A0_5 l0_5.length c0_5, .slice A0_6 l0_6.length c0_6] 27 (0, 0)) Z8x1 hg (Kd.R_ne HO328.out BK323.out (by decide)));have n1_ := Aside0.mk (Kd.R_after (ok := (fun _ => True)) (by (with_reducible repeat (first | apply Kd.R_alloc | apply Kd.R_drewN | apply Kd.R_drew)); exact Kd.R_mono HO331.out (fun _ hk => ⟨trivial, hk⟩)) hg hat);have n2_ := Aside0.mk (hb);have n3_ := Aside0.mk (ho);clear BK323;clear HO331;clear HB;clear HO328;have BK323 := n0_;have HO331 := n1_;have HB := n2_;have HO334 := n3_;clear n0_ n1_ n2_ n3_;clear ho hb hg hat;obtain ⟨Ao25, co25, eo25⟩ := Kd.R_slice HO334.out
     (first | subst eo25 | (injection eo25 with f1_ f2_ f3_; have f4_ := f1_.symm; have f5_ := f3_.symm; clear f1_ f2_ f3_; subst f4_; subst f5_))
     refine hK.out _ _ ⟨(blk_cell BK323.out 0).trans rfl, (blk_cell BK323.out 1).trans rfl, (blk_cell BK323.out 2).trans rfl, (blk_cell BK323.out 3).trans rfl, (blk_cell BK323.out 4).trans rfl, (blk_cell BK323.out 5).trans rfl, (blk_cell BK323.out 6).trans rfl⟩ (fun hHeld => ?_);clear hK K;refine norm_ (a' := ?_) ?_ ?_
     rotate_left
     ·show Act.put _ (some 51) _ = _
      simp only [czP]
      rfl
     refine pure_ (i := 12) (N := some 52) (v := ?_) (a' := ?_) #[true, true, true, true, true, true, true, true, true, true, true, true, true, true] rfl rfl (any_of HT_.out (by kernel_rfl)) (fun _ _ _ h => h) (Or.inl ⟨by rfl, ?_⟩) ?_ ?_
     rotate_left
     ·intro w'
      go_simp
      with_reducible rfl
     rotate_left
     ·simp only [czP]
      rfl
     refine done_ (done_of HT_.out (by kernel_rfl)) ?_
     try go_wp2
     go_loopg [3, 53] kj1 (fun kq v3 v53 w' => ∃ (x3_2 : Int) (x53_2 : Int), v3 = .int .i64 x3_2 ∧ v53 = .int .i64 x53_2 ∧ Aside0 (impl_SketchOk.l0 kq x3_2 y332 (y332.length : Int) x53_2 a0_0 a0_1 a0_2 a0_3 l0_4 l0_5 l0_6 = some r) ∧ Aside0 (kq ≤ kj1) ∧ Aside0 (Kd.R (Kd.int .i64) 3 w' w.heap.size (fun _ => True) (.slice Ao25 y332.length co25) y332) ∧ Aside0 (w'.heap[gb323]? = some (.cells #[.int .i64 a0_0, .int .i64 a0_1, .int .i64 a0_2, .int .i64 a0_3, (.slice A0_4 l0_4.length c0_4), (.slice A0_5 l0_5.length c0_5), (.slice A0_6 l0_6.length c0_6)] 27 (0, 0))) ∧ Aside0 (Below w.heap.size w w'))
     case atStart => exact ⟨(0), (0), Z8x4, Z8x4, H', ⟨Nat.le_refl _⟩, ⟨by (with_reducible repeat (first | apply Kd.R_alloc | apply Kd.R_drewN | apply Kd.R_drew)); exact Kd.R_mono HO334.out (fun _ hk => trivial)⟩, ⟨Z8x1⟩, ⟨Z8x0⟩⟩
     case round =>
      clear H'
      try clear c1
      try clear p2
      try clear c3
      try clear p3
      try clear q3
      try clear hx3
      try clear qi3
      try clear c4
      try clear c4b0
      try clear c4b1
      try clear c4b2
      try clear c5
      try clear c5b0
      try clear c5b1
      try clear c6
      try clear c6b0
      try clear c6b1
      try clear c7
      try clear c7b0
      try clear c7b1
      try clear c7b2
      try clear c8
      try clear c8b0
      try clear c8b1
      try clear c9
      try clear c9b0
      try clear c9b1
      try clear c9b2
      try clear c15
      try clear c17
      try clear hcz10_0 hcz10_1 hcz10_2 hcz10_3 hcz10_4 hcz10_5 hcz10_6
      try clear hcz11_0 hcz11_1 hcz11_2 hcz11_3 hcz11_4 hcz11_5 hcz11_6
      try clear hcz12_0 hcz12_1 hcz12_2 hcz12_3 hcz12_4 hcz12_5 hcz12_6
      try clear hcz13_0 hcz13_1 hcz13_2 hcz13_3 hcz13_4 hcz13_5 hcz13_6
      try clear hcz14_0 hcz14_1 hcz14_2 hcz14_3 hcz14_4 hcz14_5 hcz14_6
      try clear hfz10_0 hfz10_1 hfz10_2 hfz10_3 hfz10_4 hfz10_5 hfz10_6
      try clear hfz11_0 hfz11_1 hfz11_2 hfz11_3 hfz11_4 hfz11_5 hfz11_6
      try clear hfz12_0 hfz12_1 hfz12_2 hfz12_3 hfz12_4 hfz12_5 hfz12_6
      try clear hfz13_0 hfz13_1 hfz13_2 hfz13_3 hfz13_4 hfz13_5 hfz13_6
      try clear hfz14_0 hfz14_1 hfz14_2 hfz14_3 hfz14_4 hfz14_5 hfz14_6
      try clear hx324_0
      try clear hx325_0
      try clear p2
      try clear p3
      try clear p324
      try clear p325
      try clear q3
      try clear q324
      try clear q325
      (try clear BK323)
      obtain ⟨x3_2, x53_2, rfl, rfl, HA, HK2, HO_51, BK323, HB⟩ := hrel
      cases gk with
      | zero => exact absurd HA.out (by simp [impl_SketchOk.l0])
      | succ k2 =>
       have H := HA.out;clear HA;simp only [impl_SketchOk.l0] at H
       by_cases c26 : x53_2 < (y332.length : Int)
       ·rw [if_pos c26] at H
        have c26b0 : decide (x53_2 < (y332.length : Int)) = true := decide_eq_true c26;clear c26
        by_cases c27 : 0 ≤ x53_2
        ·rw [if_pos c27] at H
         have c27b0 : decide (0 ≤ x53_2) = true := decide_eq_true c27;clear c27
         by_cases c28 : x53_2 < (y332.length : Int)
         ·rw [if_pos c28] at H
          have c28b0 : decide (x53_2 < (y332.length : Int)) = true := decide_eq_true c28;clear c28;replace H := Option.bind_eq_some_iff.mp H;obtain ⟨t336, A290, H⟩ := H;replace H : (if t336 = true then (impl_SketchOk.l0 k2 (wrap64 (x3_2 + (rd y332 x53_2))) y332 (y332.length : Int) (wrap64 (x53_2 + 1)) a0_0 a0_1 a0_2 a0_3 l0_4 l0_5 l0_6) else (some false)) = some r := H;have A29 := Aside0.mk A290;clear A290
          by_cases c30 : t336 = true
          ·subst c30
           have H1 : (impl_SketchOk.l0 k2 (wrap64 (x3_2 + (rd y332 x53_2))) y332 (y332.length : Int) (wrap64 (x53_2 + 1)) a0_0 a0_1 a0_2 a0_3 l0_4 l0_5 l0_6) = some r := by rw [if_pos rfl] at H; exact H
           clear H;have H := H1;clear H1;have H' := Aside0.mk H;clear H;have p335 : 0 ≤ (x53_2 : Int) := of_decide_eq_true Z8x3;have q335 : x53_2 < (y332.length : Int) := of_decide_eq_true Z8x3;obtain ⟨ad335, e335, hx335_0⟩ := Kd.at_int (Kd.R_reads' HO_51.out).2.2 x53_2 p335 q335
           cases e335
           replace p335 := eq_true p335;replace q335 := eq_true q335
           go_wp2_with (first | ((with_reducible refine gate_callee (f := 40) rfl ?_); refine goesL_ (some 58) rfl rfl Try.func40 (by kernel_rfl) rfl #[.int .i64 (rd y332 x53_2), .int .i64 0, .int .i64 1000000000] rfl Z8x5 ?_; (with_reducible refine (impl_within.calls (rd y332 x53_2) 0 1000000000 true _ A29.out).mono ?_); rintro e w' ⟨rfl, ⟨nd, rfl⟩⟩; refine ⟨_, rfl, ?_⟩))
           go_roundg k2
           case measure => have := HJ1.out; have := HK2.out; omega
           case rel => exact ⟨(wrap64 (x3_2 + (rd y332 x53_2))), (wrap64 (x53_2 + 1)), Z8x4, Z8x4, H', ⟨by have := HJ1.out; have := HK2.out; omega⟩, ⟨by (with_reducible repeat (first | apply Kd.R_alloc | apply Kd.R_drewN | apply Kd.R_drew)); exact HO_51.out⟩, ⟨Z8x1⟩, ⟨Z8x0⟩⟩
          ·replace c30 := Bool.eq_false_iff.mpr c30
           subst c30
           have H1 : (some false) = some r := by rw [if_neg (show ¬ (false = true) by decide)] at H; exact H
           clear H;have H := H1;clear H1;obtain rfl := Option.some.inj H;simp only [Option.some.injEq, Prod.mk.injEq] at H;obtain ⟨rfl⟩ := H;have p335 : 0 ≤ (x53_2 : Int) := of_decide_eq_true Z8x3;have q335 : x53_2 < (y332.length : Int) := of_decide_eq_true Z8x3;obtain ⟨ad335, e335, hx335_0⟩ := Kd.at_int (Kd.R_reads' HO_51.out).2.2 x53_2 p335 q335
           cases e335
           replace p335 := eq_true p335;replace q335 := eq_true q335
           go_wp2_with (first | ((with_reducible refine gate_callee (f := 40) rfl ?_); refine goesL_ (some 58) rfl rfl Try.func40 (by kernel_rfl) rfl #[.int .i64 (rd y332 x53_2), .int .i64 0, .int .i64 1000000000] rfl Z8x5 ?_; (with_reducible refine (impl_within.calls (rd y332 x53_2) 0 1000000000 false _ A29.out).mono ?_); rintro e w' ⟨rfl, ⟨nd, rfl⟩⟩; refine ⟨_, rfl, ?_⟩))
           go_ret
           exact ⟨Z8x2, Z8x0⟩
         ·rw [if_neg c28] at H
          exact absurd H (by simp)
        ·rw [if_neg c27] at H
         exact absurd H (by simp)
       ·rw [if_neg c26] at H
        have c26b0 : decide (x53_2 < (y332.length : Int)) = false := decide_eq_false c26;clear c26;have H' := Aside0.mk H;clear H;obtain ⟨hcz31_0, hcz31_1, hcz31_2, hcz31_3, hcz31_4, hcz31_5, hcz31_6⟩ := cz7 BK323.out;obtain ⟨hfz31_0, hfz31_1, hfz31_2, hfz31_3, hfz31_4, hfz31_5, hfz31_6⟩ := fz7 BK323.out
        go_wp2
        go_loopg [67] k2 (fun kq v67 w' => ∃ (x67_3 : Int), v67 = .int .i64 x67_3 ∧ Aside0 (impl_SketchOk.l1 kq x3_2 l0_5 (l0_5.length : Int) x67_3 a0_0 a0_1 a0_2 a0_3 l0_4 l0_5 l0_6 = some r) ∧ Aside0 (kq ≤ k2) ∧ Aside0 (w'.heap[gb323]? = some (.cells #[.int .i64 a0_0, .int .i64 a0_1, .int .i64 a0_2, .int .i64 a0_3, (.slice A0_4 l0_4.length c0_4), (.slice A0_5 l0_5.length c0_5), (.slice A0_6 l0_6.length c0_6)] 27 (0, 0))) ∧ Aside0 (Below w.heap.size w w'))
        case atStart => exact ⟨(0), Z8x4, H', ⟨Nat.le_refl _⟩, ⟨Z8x1⟩, ⟨Z8x0⟩⟩
        case round =>
         clear H'
         try clear c1
         try clear c2
         try clear p2
         try clear c3
         try clear p3
         try clear q3
         try clear hx3
         try clear qi3
         try clear c4
         try clear c4b0
         try clear c4b1
         try clear c4b2
         try clear c5
         try clear c5b0
         try clear c5b1
         try clear c6
         try clear c6b0
         try clear c6b1
         try clear p6
         try clear c7
         try clear c7b0
         try clear c7b1
         try clear c7b2
         try clear c8
         try clear c8b0
         try clear c8b1
         try clear c9
         try clear c9b0
         try clear c9b1
         try clear c9b2
         try clear c15
         try clear c17
         try clear c26
         try clear c26b0
         try clear c27
         try clear c27b0
         try clear c28
         try clear c28b0
         try clear c30
         try clear hcz10_0 hcz10_1 hcz10_2 hcz10_3 hcz10_4 hcz10_5 hcz10_6
         try clear hcz11_0 hcz11_1 hcz11_2 hcz11_3 hcz11_4 hcz11_5 hcz11_6
         try clear hcz12_0 hcz12_1 hcz12_2 hcz12_3 hcz12_4 hcz12_5 hcz12_6
         try clear hcz13_0 hcz13_1 hcz13_2 hcz13_3 hcz13_4 hcz13_5 hcz13_6
         try clear hcz14_0 hcz14_1 hcz14_2 hcz14_3 hcz14_4 hcz14_5 hcz14_6
         try clear hcz31_0 hcz31_1 hcz31_2 hcz31_3 hcz31_4 hcz31_5 hcz31_6
         try clear hfz10_0 hfz10_1 hfz10_2 hfz10_3 hfz10_4 hfz10_5 hfz10_6
         try clear hfz11_0 hfz11_1 hfz11_2 hfz11_3 hfz11_4 hfz11_5 hfz11_6
         try clear hfz12_0 hfz12_1 hfz12_2 hfz12_3 hfz12_4 hfz12_5 hfz12_6
         try clear hfz13_0 hfz13_1 hfz13_2 hfz13_3 hfz13_4 hfz13_5 hfz13_6
         try clear hfz14_0 hfz14_1 hfz14_2 hfz14_3 hfz14_4 hfz14_5 hfz14_6
         try clear hfz31_0 hfz31_1 hfz31_2 hfz31_3 hfz31_4 hfz31_5 hfz31_6
         try clear hx324_0
         try clear hx325_0
         try clear hx335_0
         try clear p2
         try clear p3
         try clear p324
         try clear p325
         try clear p335
         try clear q3
         try clear q324
         try clear q325
         try clear q335
         (try clear BK323)
         obtain ⟨x67_3, rfl, HA, HK3, BK323, HB⟩ := hrel
         cases gk with
         | zero => exact absurd HA.out (by simp [impl_SketchOk.l1])
         | succ k3 =>
          have H := HA.out;clear HA;simp only [impl_SketchOk.l1] at H
          by_cases c32 : x67_3 < (l0_5.length : Int)
          ·rw [if_pos c32] at H
           have c32b0 : decide (x67_3 < (l0_5.length : Int)) = true := decide_eq_true c32;clear c32
           by_cases c33 : 0 ≤ x67_3
           ·rw [if_pos c33] at H
            have c33b0 : decide (0 ≤ x67_3) = true := decide_eq_true c33;clear c33
            by_cases c34 : x67_3 < (l0_5.length : Int)
            ·rw [if_pos c34] at H
             have c34b0 : decide (x67_3 < (l0_5.length : Int)) = true := decide_eq_true c34;clear c34
             by_cases c35 : (rd l0_5 x67_3) > 17
             ·rw [if_pos c35] at H
              have c35b0 : decide (17 < (rd l0_5 x67_3)) = true := decide_eq_true c35;clear c35;obtain rfl := Option.some.inj H;simp only [Option.some.injEq, Prod.mk.injEq] at H;obtain ⟨rfl⟩ := H;have p337 : 0 ≤ (x67_3 : Int) := of_decide_eq_true Z8x3;have q337 : x67_3 < (l0_5.length : Int) := of_decide_eq_true Z8x3;obtain ⟨ad337, e337, hx337_0⟩ := Kd.at_int HR0_5.out x67_3 p337 q337
              cases e337
              replace hx337_0 := czB HB.out hx337_0;replace p337 := eq_true p337;replace q337 := eq_true q337
              go_wp2
              go_ret
              exact ⟨Z8x2, Z8x0⟩
             ·rw [if_neg c35] at H
              have c35b0 : decide (17 < (rd l0_5 x67_3)) = false := decide_eq_false c35;clear c35;have H' := Aside0.mk H;clear H;have p337 : 0 ≤ (x67_3 : Int) := of_decide_eq_true Z8x3;have q337 : x67_3 < (l0_5.length : Int) := of_decide_eq_true Z8x3;obtain ⟨ad337, e337, hx337_0⟩ := Kd.at_int HR0_5.out x67_3 p337 q337
              cases e337
              replace hx337_0 := czB HB.out hx337_0;replace p337 := eq_true p337;replace q337 := eq_true q337
              go_wp2
              go_roundg k3
              case measure => have := HJ1.out; have := HK2.out; have := HK3.out; omega
              case rel => exact ⟨(wrap64 (x67_3 + 1)), Z8x4, H', ⟨by have := HJ1.out; have := HK2.out; have := HK3.out; omega⟩, ⟨Z8x1⟩, ⟨Z8x0⟩⟩
            ·rw [if_neg c34] at H
             exact absurd H (by simp)
           ·rw [if_neg c33] at H
            exact absurd H (by simp)
          ·rw [if_neg c32] at H
           have c32b0 : decide (x67_3 < (l0_5.length : Int)) = false := decide_eq_false c32;clear c32
           by_cases c36 : a0_0 = 0
           ·rw [if_pos c36] at H
            have c36b0 : (a0_0 == 0) = true := beq_iff_eq.mpr c36;have c36b1 : (a0_0 != 0) = false := bne_eq_false_iff_eq.mpr c36;clear c36;obtain rfl := Option.some.inj H;simp only [Option.some.injEq, Prod.mk.injEq] at H;obtain ⟨rfl⟩ := H;obtain ⟨hcz37_0, hcz37_1, hcz37_2, hcz37_3, hcz37_4, hcz37_5, hcz37_6⟩ := cz7 BK323.out;obtain ⟨hfz37_0, hfz37_1, hfz37_2, hfz37_3, hfz37_4, hfz37_5, hfz37_6⟩ := fz7 BK323.out
            go_wp2
            go_ret
            exact ⟨Z8x2, Z8x0⟩
           ·rw [if_neg c36] at H
            have c36b0 : (a0_0 == 0) = false := beq_eq_false_iff_ne.mpr c36;have c36b1 : (a0_0 != 0) = true := bne_iff_ne.mpr c36
            by_cases c38 : a0_2 ≤ a0_3
            ·rw [if_pos c38] at H
             have c38b0 : decide (a0_2 ≤ a0_3) = true := decide_eq_true c38;clear c38;obtain rfl := Option.some.inj H;simp only [Option.some.injEq, Prod.mk.injEq] at H;obtain ⟨rfl⟩ := H;obtain ⟨hcz39_0, hcz39_1, hcz39_2, hcz39_3, hcz39_4, hcz39_5, hcz39_6⟩ := cz7 BK323.out;obtain ⟨hfz39_0, hfz39_1, hfz39_2, hfz39_3, hfz39_4, hfz39_5, hfz39_6⟩ := fz7 BK323.out
             go_wp2
             go_ret
             exact ⟨Z8x2, Z8x0⟩
            ·rw [if_neg c38] at H
             have c38b0 : decide (a0_2 ≤ a0_3) = false := decide_eq_false c38;clear c38;obtain rfl := Option.some.inj H;simp only [Option.some.injEq, Prod.mk.injEq] at H;obtain ⟨rfl⟩ := H;obtain ⟨hcz40_0, hcz40_1, hcz40_2, hcz40_3, hcz40_4, hcz40_5, hcz40_6⟩ := cz7 BK323.out;obtain ⟨hfz40_0, hfz40_1, hfz40_2, hfz40_3, hfz40_4, hfz40_5, hfz40_6⟩ := fz7 BK323.out
             go_wp2
             go_ret
             exact ⟨Z8x2, Z8x0⟩
    ·rw [if_neg c17] at H
     exact absurd H (by simp)

end Go.Proofs.Ytdciagkholijlaa.PFnItems
