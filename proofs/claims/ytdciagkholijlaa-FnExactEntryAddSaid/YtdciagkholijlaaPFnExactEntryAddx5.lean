-- Written by this session's changed copy of the kit's printer (wip/patch_print.py): not the kit's own print.
import Derived.Test.YtdciagkholijlaaPFnExactEntryAddx0
import Derived.Test.YtdciagkholijlaaPFnExactEntryAddx2
import Derived.Test.YtdciagkholijlaaPFnExactEntryAddx3
import Derived.Test.YtdciagkholijlaaPFnExactEntryAddx4
namespace Go.Proofs.Ytdciagkholijlaa.PFnExactEntryAdd
open Go.RowKit Go.Proofs.YtdciagkholijlaaW.PrintWords Go.Proofs.YtdciagkholijlaaW.PrintLast Go.Proofs.YtdciagkholijlaaW.PrintMore
attribute [local go_sem] max2_int min2_int max_two min_two max_three min_three max_four min_four   -- for this text's walks alone
set_option linter.unusedVariables false
set_option linter.unusedSimpArgs false
theorem Z5x0 {p : Prop} (h : p := by repeat (first | (with_reducible first | exact HB.out | apply below_alloc | apply pw_below_drewN | apply below_drew1) | exact HB.out)) : p := h
theorem Z5x1 {p : Prop} (h : p := by repeat (first | (with_reducible first | exact HB.out | apply below_alloc | apply pw_below_drewN | apply below_drew1 | refine below_set ?_ GE178.out) | exact HB.out)) : p := h
theorem Z5x2 {p : Prop} (h : p := by repeat (first | (with_reducible first | exact HB.out | apply below_alloc | apply pw_below_drewN | apply below_drew1 | refine below_set ?_ GE186.out) | exact HB.out)) : p := h
theorem Z5x3 {p : Prop} (h : p := by (with_reducible repeat (first | refine blk_drewN ?_ _ | refine blk_drew ?_ | refine blk_alloc ?_ _)); exact BK186.out) : p := h
theorem Z5x4 {p : Prop} (h : p := by (try simp only [List.map_toArray, List.map_cons, List.map_nil]); first | done | rfl | (simp only [List.length_drop, List.length_take]; rfl)) : p := h
theorem Z5x5 {p : Prop} (h : p := by first | rfl | (simp [errW_none, errW_some] <;> rfl) | (simp [*, errW_none, errW_some] <;> rfl)) : p := h
theorem Z5x6 {p : Prop} (h : p := by (with_reducible repeat (first | refine blk_drewN ?_ _ | refine blk_drew ?_ | refine blk_alloc ?_ _)); refine blk_far ?_ NB186_188.out _; (with_reducible repeat (first | refine blk_drewN ?_ _ | refine blk_drew ?_ | refine blk_alloc ?_ _)); refine blk_far ?_ NB186_188.out _; (with_reducible repeat (first | refine blk_drewN ?_ _ | refine blk_drew ?_ | refine blk_alloc ?_ _)); exact BK186.out) : p := h
theorem Z5x7 {p : Prop} (h : p := by repeat (first | (with_reducible first | exact HB.out | apply below_alloc | apply pw_below_drewN | apply below_drew1 | refine below_set ?_ GE186.out | refine below_set ?_ GE188.out) | exact HB.out)) : p := h
theorem Z5x8 {p : Prop} (h : p := by (with_reducible repeat (first | refine blk_drewN ?_ _ | refine blk_drew ?_ | refine blk_alloc ?_ _)); exact BK178.out) : p := h
theorem Z5x9 {p : Prop} (h : p := by repeat (first | exact (Kd.C_below HR0_2.out Z5x1) | (with_reducible refine Kd.C_alloc ?_ _) | (with_reducible refine Kd.C_drewN ?_ _) | (with_reducible refine Kd.C_drew ?_))) : p := h
theorem Z5x10 {p : Prop} (h : p := by rw [hg]; exact (below_size Z5x0)) : p := h
theorem Z5x11 {p : Prop} (h : p := by first | (with_reducible assumption) | assumption) : p := h
theorem Z5x12 {p : Prop} (h : p := by rw [hg]; exact Nat.ne_of_lt (blk_lt (g := gb186) (o := .cells #[.int .i64 ((rd_T70 l0 x19_2).f0), .int .i64 ((rd_T70 l0 x19_2).f1)] 70 (0, 0)) Z5x3)) : p := h
theorem Z5x13 {p : Prop} (h : p := by rw [hg]; exact Nat.ne_of_gt (blk_lt (g := gb186) (o := .cells #[.int .i64 ((rd_T70 l0 x19_2).f0), .int .i64 ((rd_T70 l0 x19_2).f1)] 70 (0, 0)) Z5x3)) : p := h
theorem Z5x14 {p : Prop} (h : p := by first | rfl | (simp; done) | (simp [*]; done)) : p := h

def impl_EntryOk.f (k : Nat) (a0_0 : Int) (a0_1 : Int) (l0_2 : List (S70)) (a0_3 : Int) (a0_4 : Int) (a0_5 : Int) (a0_6 : Int) (l0_7 : List Int) (l0_8 : List Int) (l0_9 : List (List Int)) : Option (Bool) := (impl_within.f a0_0 0 4).bind fun t179 => (if t179 = true then ((impl_within.f a0_1 0 20).bind fun t180 => (if t180 = true then ((impl_SetOk.f k l0_2).bind fun t181 => (if t181 = true then (if (l0_2.length : Int) > 0 then ((impl_SketchOk.f k a0_3 a0_4 a0_5 a0_6 l0_7 l0_8 l0_9).bind fun t182 => (some t182)) else (some false)) else (some false))) else (some false))) else (some false))
theorem impl_EntryOk.mono : ∀ a0 a1 a2 a3 a4 a5 a6 a7 a8 a9 k, LeO (impl_EntryOk.f k a0 a1 a2 a3 a4 a5 a6 a7 a8 a9) (impl_EntryOk.f (k + 1) a0 a1 a2 a3 a4 a5 a6 a7 a8 a9) := by
 intro a0 a1 a2 a3 a4 a5 a6 a7 a8 a9 k
 unfold impl_EntryOk.f
 repeat' first
   | (with_reducible exact impl_SetOk.mono _ _)
   | (with_reducible exact impl_SketchOk.mono _ _ _ _ _ _ _ _)
   | (with_reducible exact LeO.refl _)
   | (with_reducible exact LeO.none _)
   | (with_reducible refine LeO.ite ?_ ?_)
   | (with_reducible refine LeO.bind ?_ (fun _ => ?_))
   | exact impl_SetOk.mono _ _
   | exact impl_SketchOk.mono _ _ _ _ _ _ _ _
   | exact LeO.none _
   | refine LeO.ite ?_ ?_
   | refine LeO.bind ?_ (fun _ => ?_)
set_option maxHeartbeats 8000000 in
set_option maxRecDepth 100000 in
theorem impl_EntryOk.calls (k : Nat) (a0_0 : Int) (a0_1 : Int) (A0_2 : Option Addr) (c0_2 : Nat) (l0_2 : List (S70)) (a0_3 : Int) (a0_4 : Int) (a0_5 : Int) (a0_6 : Int) (A0_7 : Option Addr) (c0_7 : Nat) (l0_7 : List Int) (A0_8 : Option Addr) (c0_8 : Nat) (l0_8 : List Int) (A0_9 : Option Addr) (c0_9 : Nat) (l0_9 : List (List Int)) (r : Bool) (w : World) (hr0_2 : Kd.C k70 w A0_2 l0_2.length l0_2) (hc0_2 : l0_2.length ≤ c0_2) (hr0_7 : Kd.C (Kd.int .i64) w A0_7 l0_7.length l0_7) (hc0_7 : l0_7.length ≤ c0_7) (hr0_8 : Kd.C (Kd.int .i64) w A0_8 l0_8.length l0_8) (hc0_8 : l0_8.length ≤ c0_8) (hr0_9 : Kd.C (Kd.slice 3 (Kd.int .i64)) w A0_9 l0_9.length l0_9) (hc0_9 : l0_9.length ≤ c0_9) (h : impl_EntryOk.f k a0_0 a0_1 l0_2 a0_3 a0_4 a0_5 a0_6 l0_7 l0_8 l0_9 = some r) :
  Calls Try.prog 14 #[.agg #[.int .i64 a0_0, .int .i64 a0_1, .slice A0_2 l0_2.length c0_2, .int .i64 a0_3, .int .i64 a0_4, .int .i64 a0_5, .int .i64 a0_6, .slice A0_7 l0_7.length c0_7, .slice A0_8 l0_8.length c0_8, .slice A0_9 l0_9.length c0_9]] w fun e w' => e = .returned (.bool r) ∧ Below w.heap.size w w' := by
 have hu34 := Try.underlying34
 have hu27 := Try.underlying27
 have HR0_2 := Aside0.mk hr0_2
 have HC0_2 := Aside0.mk hc0_2
 clear hr0_2 hc0_2
 have HR0_7 := Aside0.mk hr0_7
 have HC0_7 := Aside0.mk hc0_7
 clear hr0_7 hc0_7
 have HR0_8 := Aside0.mk hr0_8
 have HC0_8 := Aside0.mk hc0_8
 clear hr0_8 hc0_8
 have HR0_9 := Aside0.mk hr0_9
 have HC0_9 := Aside0.mk hc0_9
 clear hr0_9 hc0_9
 have HB := Aside0.mk (Below.refl w.heap.size w)
 have H : ((impl_within.f a0_0 0 4).bind fun t179 => (if t179 = true then ((impl_within.f a0_1 0 20).bind fun t180 => (if t180 = true then ((impl_SetOk.f k l0_2).bind fun t181 => (if t181 = true then (if (l0_2.length : Int) > 0 then ((impl_SketchOk.f k a0_3 a0_4 a0_5 a0_6 l0_7 l0_8 l0_9).bind fun t182 => (some t182)) else (some false)) else (some false))) else (some false))) else (some false))) = some r := h
 clear h
 replace H := Option.bind_eq_some_iff.mp H
 obtain ⟨t179, A20, H⟩ := H
 replace H : (if t179 = true then ((impl_within.f a0_1 0 20).bind fun t180 => (if t180 = true then ((impl_SetOk.f k l0_2).bind fun t181 => (if t181 = true then (if (l0_2.length : Int) > 0 then ((impl_SketchOk.f k a0_3 a0_4 a0_5 a0_6 l0_7 l0_8 l0_9).bind fun t182 => (some t182)) else (some false)) else (some false))) else (some false))) else (some false)) = some r := H
 have A2 := Aside0.mk A20
 clear A20
 by_cases c3 : t179 = true
 ·subst c3
  have H1 : ((impl_within.f a0_1 0 20).bind fun t180 => (if t180 = true then ((impl_SetOk.f k l0_2).bind fun t181 => (if t181 = true then (if (l0_2.length : Int) > 0 then ((impl_SketchOk.f k a0_3 a0_4 a0_5 a0_6 l0_7 l0_8 l0_9).bind fun t182 => (some t182)) else (some false)) else (some false))) else (some false))) = some r := by rw [if_pos rfl] at H; exact H
  clear H
  have H := H1
  clear H1
  replace H := Option.bind_eq_some_iff.mp H
  obtain ⟨t180, A40, H⟩ := H
  replace H : (if t180 = true then ((impl_SetOk.f k l0_2).bind fun t181 => (if t181 = true then (if (l0_2.length : Int) > 0 then ((impl_SketchOk.f k a0_3 a0_4 a0_5 a0_6 l0_7 l0_8 l0_9).bind fun t182 => (some t182)) else (some false)) else (some false))) else (some false)) = some r := H
  have A4 := Aside0.mk A40
  clear A40
  by_cases c5 : t180 = true
  ·subst c5
   have H1 : ((impl_SetOk.f k l0_2).bind fun t181 => (if t181 = true then (if (l0_2.length : Int) > 0 then ((impl_SketchOk.f k a0_3 a0_4 a0_5 a0_6 l0_7 l0_8 l0_9).bind fun t182 => (some t182)) else (some false)) else (some false))) = some r := by rw [if_pos rfl] at H; exact H
   clear H
   have H := H1
   clear H1
   replace H := Option.bind_eq_some_iff.mp H
   obtain ⟨t181, A60, H⟩ := H
   replace H : (if t181 = true then (if (l0_2.length : Int) > 0 then ((impl_SketchOk.f k a0_3 a0_4 a0_5 a0_6 l0_7 l0_8 l0_9).bind fun t182 => (some t182)) else (some false)) else (some false)) = some r := H
   have A6 := Aside0.mk A60
   clear A60
   by_cases c7 : t181 = true
   ·subst c7
    have H1 : (if (l0_2.length : Int) > 0 then ((impl_SketchOk.f k a0_3 a0_4 a0_5 a0_6 l0_7 l0_8 l0_9).bind fun t182 => (some t182)) else (some false)) = some r := by rw [if_pos rfl] at H; exact H
    clear H;have H := H1;clear H1
    by_cases c8 : (l0_2.length : Int) > 0
    ·rw [if_pos c8] at H
     have c8b0 : decide (0 < (l0_2.length : Int)) = true := decide_eq_true c8
     (try (have c8b1 : decide (0 < l0_2.length) = true := decide_eq_true (by omega)))
     (try (have c8b2 : (0 < l0_2.length) = True := eq_true (by omega)))
     have c8b3 : decide (0 < l0_2.length) = true := decide_eq_true (by omega);clear c8;replace H := Option.bind_eq_some_iff.mp H;obtain ⟨t182, A90, H⟩ := H;replace H : (some t182) = some r := H;have A9 := Aside0.mk A90;clear A90;obtain rfl := Option.some.inj H;simp only [Option.some.injEq, Prod.mk.injEq] at H;obtain ⟨rfl⟩ := H
     go_enter Try.func14, Try.ntmps14
     go_wp2_with (first | ((with_reducible refine gate_dst (N := 1) rfl ?_); (try (refine gate_guard (by rfl) ?_; dsimp only)); refine box_event ?hg (N := 1) ?hd (cs := #[.int .i64 a0_0, .int .i64 a0_1, .slice A0_2 l0_2.length c0_2, .int .i64 a0_3, .int .i64 a0_4, .int .i64 a0_5, .int .i64 a0_6, .slice A0_7 l0_7.length c0_7, .slice A0_8 l0_8.length c0_8, .slice A0_9 l0_9.length c0_9]) (t := 34) ?hr ?_; (case hd => rfl); (case hg => rfl); (case hr => first | (go_simp; done) | (go_simp; rfl)); intro gb178 hg w10 hbox hb; have n0_ := Aside0.mk (below_step Z5x0 hb); have n1_ := Aside0.mk (hbox); have n2_ := Aside0.mk ((Z5x10 : w.heap.size ≤ gb178)); have n3_ := Aside0.mk ((Z5x10 : w.heap.size ≤ gb178)); clear HB; have HB := n0_; have BK178 := n1_; have GW178 := n2_; have GE178 := n3_; clear n0_ n1_ n2_ n3_; clear hb hbox hg; obtain ⟨hcz11_0, hcz11_1, hcz11_2, hcz11_3, hcz11_4, hcz11_5, hcz11_6, hcz11_7, hcz11_8, hcz11_9⟩ := cz10 BK178.out; obtain ⟨hfz11_0, hfz11_1, hfz11_2, hfz11_3, hfz11_4, hfz11_5, hfz11_6, hfz11_7, hfz11_8, hfz11_9⟩ := fz10 BK178.out) | ((with_reducible refine gate_callee (f := 40) rfl ?_); refine goesL_ (some 5) rfl rfl Try.func40 (by kernel_rfl) rfl #[.int .i64 a0_0, .int .i64 0, .int .i64 4] rfl Z5x4 ?_; (with_reducible refine (impl_within.calls a0_0 0 4 true _ A2.out).mono ?_); rintro e w' ⟨rfl, ⟨nd, rfl⟩⟩; refine ⟨_, rfl, ?_⟩) | (go_at_call 40; (with_reducible refine (impl_within.calls a0_1 0 20 true _ A4.out).mono ?_); rintro e w' ⟨rfl, ⟨nd, rfl⟩⟩) | (go_at_call 43; (with_reducible refine (impl_SetOk.calls k _ _ l0_2 true _ ?side1 ?side2 A6.out).mono ?_); (case side1 => exact Z5x9); (case side2 => exact HC0_2.out); rintro e w12 ⟨rfl, hb⟩; have n0_ := Aside0.mk (blk_below (g := gb178) (o := .cells #[.int .i64 a0_0, .int .i64 a0_1, .slice A0_2 l0_2.length c0_2, .int .i64 a0_3, .int .i64 a0_4, .int .i64 a0_5, .int .i64 a0_6, .slice A0_7 l0_7.length c0_7, .slice A0_8 l0_8.length c0_8, .slice A0_9 l0_9.length c0_9] 34 (0, 0)) Z5x8 hb); have n1_ := Aside0.mk (below_step Z5x1 hb); clear BK178; clear HB; have BK178 := n0_; have HB := n1_; clear n0_ n1_; (try clear hb); (try clear hb2); (try clear hk); (try clear hi); obtain ⟨hcz13_0, hcz13_1, hcz13_2, hcz13_3, hcz13_4, hcz13_5, hcz13_6, hcz13_7, hcz13_8, hcz13_9⟩ := cz10 BK178.out; obtain ⟨hfz13_0, hfz13_1, hfz13_2, hfz13_3, hfz13_4, hfz13_5, hfz13_6, hfz13_7, hfz13_8, hfz13_9⟩ := fz10 BK178.out) | (go_at_call 44; (with_reducible refine (impl_SketchOk.calls k a0_3 a0_4 a0_5 a0_6 _ _ l0_7 _ _ l0_8 _ _ l0_9 t182 _ ?side1 ?side2 ?side3 ?side4 ?side5 ?side6 A9.out).mono ?_); (case side1 => repeat (first | exact (Kd.C_below HR0_7.out HB.out) | (with_reducible refine Kd.C_alloc ?_ _) | (with_reducible refine Kd.C_drewN ?_ _) | (with_reducible refine Kd.C_drew ?_))); (case side2 => exact HC0_7.out); (case side3 => repeat (first | exact (Kd.C_below HR0_8.out HB.out) | (with_reducible refine Kd.C_alloc ?_ _) | (with_reducible refine Kd.C_drewN ?_ _) | (with_reducible refine Kd.C_drew ?_))); (case side4 => exact HC0_8.out); (case side5 => repeat (first | exact (Kd.C_below HR0_9.out HB.out) | (with_reducible refine Kd.C_alloc ?_ _) | (with_reducible refine Kd.C_drewN ?_ _) | (with_reducible refine Kd.C_drew ?_))); (case side6 => exact HC0_9.out); rintro e w14 ⟨rfl, hb⟩; have n0_ := Aside0.mk (blk_below (g := gb178) (o := .cells #[.int .i64 a0_0, .int .i64 a0_1, .slice A0_2 l0_2.length c0_2, .int .i64 a0_3, .int .i64 a0_4, .int .i64 a0_5, .int .i64 a0_6, .slice A0_7 l0_7.length c0_7, .slice A0_8 l0_8.length c0_8, .slice A0_9 l0_9.length c0_9] 34 (0, 0)) Z5x8 hb); have n1_ := Aside0.mk (below_step Z5x1 hb); clear BK178; clear HB; have BK178 := n0_; have HB := n1_; clear n0_ n1_; (try clear hb); (try clear hb2); (try clear hk); (try clear hi)))
     go_ret
     exact ⟨Z5x5, Z5x1⟩
    ·rw [if_neg c8] at H
     have c8b0 : decide (0 < (l0_2.length : Int)) = false := decide_eq_false c8
     (try (have c8b1 : decide (0 < l0_2.length) = false := decide_eq_false (by omega)))
     (try (have c8b2 : (0 < l0_2.length) = False := eq_false (by omega)))
     have c8b3 : decide (0 < l0_2.length) = false := decide_eq_false (by omega);clear c8;obtain rfl := Option.some.inj H;simp only [Option.some.injEq, Prod.mk.injEq] at H;obtain ⟨rfl⟩ := H
     go_enter Try.func14, Try.ntmps14
     go_wp2_with (first | ((with_reducible refine gate_dst (N := 1) rfl ?_); (try (refine gate_guard (by rfl) ?_; dsimp only)); refine box_event ?hg (N := 1) ?hd (cs := #[.int .i64 a0_0, .int .i64 a0_1, .slice A0_2 l0_2.length c0_2, .int .i64 a0_3, .int .i64 a0_4, .int .i64 a0_5, .int .i64 a0_6, .slice A0_7 l0_7.length c0_7, .slice A0_8 l0_8.length c0_8, .slice A0_9 l0_9.length c0_9]) (t := 34) ?hr ?_; (case hd => rfl); (case hg => rfl); (case hr => first | (go_simp; done) | (go_simp; rfl)); intro gb178 hg w15 hbox hb; have n0_ := Aside0.mk (below_step Z5x0 hb); have n1_ := Aside0.mk (hbox); have n2_ := Aside0.mk ((Z5x10 : w.heap.size ≤ gb178)); have n3_ := Aside0.mk ((Z5x10 : w.heap.size ≤ gb178)); clear HB; have HB := n0_; have BK178 := n1_; have GW178 := n2_; have GE178 := n3_; clear n0_ n1_ n2_ n3_; clear hb hbox hg; obtain ⟨hcz16_0, hcz16_1, hcz16_2, hcz16_3, hcz16_4, hcz16_5, hcz16_6, hcz16_7, hcz16_8, hcz16_9⟩ := cz10 BK178.out; obtain ⟨hfz16_0, hfz16_1, hfz16_2, hfz16_3, hfz16_4, hfz16_5, hfz16_6, hfz16_7, hfz16_8, hfz16_9⟩ := fz10 BK178.out) | ((with_reducible refine gate_callee (f := 40) rfl ?_); refine goesL_ (some 5) rfl rfl Try.func40 (by kernel_rfl) rfl #[.int .i64 a0_0, .int .i64 0, .int .i64 4] rfl Z5x4 ?_; (with_reducible refine (impl_within.calls a0_0 0 4 true _ A2.out).mono ?_); rintro e w' ⟨rfl, ⟨nd, rfl⟩⟩; refine ⟨_, rfl, ?_⟩) | (go_at_call 40; (with_reducible refine (impl_within.calls a0_1 0 20 true _ A4.out).mono ?_); rintro e w' ⟨rfl, ⟨nd, rfl⟩⟩) | (go_at_call 43; (with_reducible refine (impl_SetOk.calls k _ _ l0_2 true _ ?side1 ?side2 A6.out).mono ?_); (case side1 => exact Z5x9); (case side2 => exact HC0_2.out); rintro e w17 ⟨rfl, hb⟩; have n0_ := Aside0.mk (blk_below (g := gb178) (o := .cells #[.int .i64 a0_0, .int .i64 a0_1, .slice A0_2 l0_2.length c0_2, .int .i64 a0_3, .int .i64 a0_4, .int .i64 a0_5, .int .i64 a0_6, .slice A0_7 l0_7.length c0_7, .slice A0_8 l0_8.length c0_8, .slice A0_9 l0_9.length c0_9] 34 (0, 0)) Z5x8 hb); have n1_ := Aside0.mk (below_step Z5x1 hb); clear BK178; clear HB; have BK178 := n0_; have HB := n1_; clear n0_ n1_; (try clear hb); (try clear hb2); (try clear hk); (try clear hi); obtain ⟨hcz18_0, hcz18_1, hcz18_2, hcz18_3, hcz18_4, hcz18_5, hcz18_6, hcz18_7, hcz18_8, hcz18_9⟩ := cz10 BK178.out; obtain ⟨hfz18_0, hfz18_1, hfz18_2, hfz18_3, hfz18_4, hfz18_5, hfz18_6, hfz18_7, hfz18_8, hfz18_9⟩ := fz10 BK178.out))
     go_ret
     exact ⟨Z5x5, Z5x1⟩
   ·replace c7 := Bool.eq_false_iff.mpr c7
    subst c7
    have H1 : (some false) = some r := by rw [if_neg (show ¬ (false = true) by decide)] at H; exact H
    clear H;have H := H1;clear H1;obtain rfl := Option.some.inj H;simp only [Option.some.injEq, Prod.mk.injEq] at H;obtain ⟨rfl⟩ := H
    go_enter Try.func14, Try.ntmps14
    go_wp2_with (first | ((with_reducible refine gate_dst (N := 1) rfl ?_); (try (refine gate_guard (by rfl) ?_; dsimp only)); refine box_event ?hg (N := 1) ?hd (cs := #[.int .i64 a0_0, .int .i64 a0_1, .slice A0_2 l0_2.length c0_2, .int .i64 a0_3, .int .i64 a0_4, .int .i64 a0_5, .int .i64 a0_6, .slice A0_7 l0_7.length c0_7, .slice A0_8 l0_8.length c0_8, .slice A0_9 l0_9.length c0_9]) (t := 34) ?hr ?_; (case hd => rfl); (case hg => rfl); (case hr => first | (go_simp; done) | (go_simp; rfl)); intro gb178 hg w19 hbox hb; have n0_ := Aside0.mk (below_step Z5x0 hb); have n1_ := Aside0.mk (hbox); have n2_ := Aside0.mk ((Z5x10 : w.heap.size ≤ gb178)); have n3_ := Aside0.mk ((Z5x10 : w.heap.size ≤ gb178)); clear HB; have HB := n0_; have BK178 := n1_; have GW178 := n2_; have GE178 := n3_; clear n0_ n1_ n2_ n3_; clear hb hbox hg; obtain ⟨hcz20_0, hcz20_1, hcz20_2, hcz20_3, hcz20_4, hcz20_5, hcz20_6, hcz20_7, hcz20_8, hcz20_9⟩ := cz10 BK178.out; obtain ⟨hfz20_0, hfz20_1, hfz20_2, hfz20_3, hfz20_4, hfz20_5, hfz20_6, hfz20_7, hfz20_8, hfz20_9⟩ := fz10 BK178.out) | ((with_reducible refine gate_callee (f := 40) rfl ?_); refine goesL_ (some 5) rfl rfl Try.func40 (by kernel_rfl) rfl #[.int .i64 a0_0, .int .i64 0, .int .i64 4] rfl Z5x4 ?_; (with_reducible refine (impl_within.calls a0_0 0 4 true _ A2.out).mono ?_); rintro e w' ⟨rfl, ⟨nd, rfl⟩⟩; refine ⟨_, rfl, ?_⟩) | (go_at_call 40; (with_reducible refine (impl_within.calls a0_1 0 20 true _ A4.out).mono ?_); rintro e w' ⟨rfl, ⟨nd, rfl⟩⟩) | (go_at_call 43; (with_reducible refine (impl_SetOk.calls k _ _ l0_2 false _ ?side1 ?side2 A6.out).mono ?_); (case side1 => exact Z5x9); (case side2 => exact HC0_2.out); rintro e w21 ⟨rfl, hb⟩; have n0_ := Aside0.mk (blk_below (g := gb178) (o := .cells #[.int .i64 a0_0, .int .i64 a0_1, .slice A0_2 l0_2.length c0_2, .int .i64 a0_3, .int .i64 a0_4, .int .i64 a0_5, .int .i64 a0_6, .slice A0_7 l0_7.length c0_7, .slice A0_8 l0_8.length c0_8, .slice A0_9 l0_9.length c0_9] 34 (0, 0)) Z5x8 hb); have n1_ := Aside0.mk (below_step Z5x1 hb); clear BK178; clear HB; have BK178 := n0_; have HB := n1_; clear n0_ n1_; (try clear hb); (try clear hb2); (try clear hk); (try clear hi)))
    go_ret
    exact ⟨Z5x5, Z5x1⟩
  ·replace c5 := Bool.eq_false_iff.mpr c5
   subst c5
   have H1 : (some false) = some r := by rw [if_neg (show ¬ (false = true) by decide)] at H; exact H
   clear H
   have H := H1
   clear H1
   obtain rfl := Option.some.inj H
   simp only [Option.some.injEq, Prod.mk.injEq] at H
   obtain ⟨rfl⟩ := H
   go_enter Try.func14, Try.ntmps14
   go_wp2_with (first | ((with_reducible refine gate_dst (N := 1) rfl ?_); (try (refine gate_guard (by rfl) ?_; dsimp only)); refine box_event ?hg (N := 1) ?hd (cs := #[.int .i64 a0_0, .int .i64 a0_1, .slice A0_2 l0_2.length c0_2, .int .i64 a0_3, .int .i64 a0_4, .int .i64 a0_5, .int .i64 a0_6, .slice A0_7 l0_7.length c0_7, .slice A0_8 l0_8.length c0_8, .slice A0_9 l0_9.length c0_9]) (t := 34) ?hr ?_; (case hd => rfl); (case hg => rfl); (case hr => first | (go_simp; done) | (go_simp; rfl)); intro gb178 hg w22 hbox hb; have n0_ := Aside0.mk (below_step Z5x0 hb); have n1_ := Aside0.mk (hbox); have n2_ := Aside0.mk ((Z5x10 : w.heap.size ≤ gb178)); have n3_ := Aside0.mk ((Z5x10 : w.heap.size ≤ gb178)); clear HB; have HB := n0_; have BK178 := n1_; have GW178 := n2_; have GE178 := n3_; clear n0_ n1_ n2_ n3_; clear hb hbox hg; obtain ⟨hcz23_0, hcz23_1, hcz23_2, hcz23_3, hcz23_4, hcz23_5, hcz23_6, hcz23_7, hcz23_8, hcz23_9⟩ := cz10 BK178.out; obtain ⟨hfz23_0, hfz23_1, hfz23_2, hfz23_3, hfz23_4, hfz23_5, hfz23_6, hfz23_7, hfz23_8, hfz23_9⟩ := fz10 BK178.out) | ((with_reducible refine gate_callee (f := 40) rfl ?_); refine goesL_ (some 5) rfl rfl Try.func40 (by kernel_rfl) rfl #[.int .i64 a0_0, .int .i64 0, .int .i64 4] rfl Z5x4 ?_; (with_reducible refine (impl_within.calls a0_0 0 4 true _ A2.out).mono ?_); rintro e w' ⟨rfl, ⟨nd, rfl⟩⟩; refine ⟨_, rfl, ?_⟩) | (go_at_call 40; (with_reducible refine (impl_within.calls a0_1 0 20 false _ A4.out).mono ?_); rintro e w' ⟨rfl, ⟨nd, rfl⟩⟩))
   go_ret
   exact ⟨Z5x5, Z5x1⟩
 ·replace c3 := Bool.eq_false_iff.mpr c3
  subst c3
  have H1 : (some false) = some r := by rw [if_neg (show ¬ (false = true) by decide)] at H; exact H
  clear H
  have H := H1
  clear H1
  obtain rfl := Option.some.inj H
  simp only [Option.some.injEq, Prod.mk.injEq] at H
  obtain ⟨rfl⟩ := H
  go_enter Try.func14, Try.ntmps14
  go_wp2_with (first | ((with_reducible refine gate_dst (N := 1) rfl ?_); (try (refine gate_guard (by rfl) ?_; dsimp only)); refine box_event ?hg (N := 1) ?hd (cs := #[.int .i64 a0_0, .int .i64 a0_1, .slice A0_2 l0_2.length c0_2, .int .i64 a0_3, .int .i64 a0_4, .int .i64 a0_5, .int .i64 a0_6, .slice A0_7 l0_7.length c0_7, .slice A0_8 l0_8.length c0_8, .slice A0_9 l0_9.length c0_9]) (t := 34) ?hr ?_; (case hd => rfl); (case hg => rfl); (case hr => first | (go_simp; done) | (go_simp; rfl)); intro gb178 hg w24 hbox hb; have n0_ := Aside0.mk (below_step Z5x0 hb); have n1_ := Aside0.mk (hbox); have n2_ := Aside0.mk ((Z5x10 : w.heap.size ≤ gb178)); have n3_ := Aside0.mk ((Z5x10 : w.heap.size ≤ gb178)); clear HB; have HB := n0_; have BK178 := n1_; have GW178 := n2_; have GE178 := n3_; clear n0_ n1_ n2_ n3_; clear hb hbox hg; obtain ⟨hcz25_0, hcz25_1, hcz25_2, hcz25_3, hcz25_4, hcz25_5, hcz25_6, hcz25_7, hcz25_8, hcz25_9⟩ := cz10 BK178.out; obtain ⟨hfz25_0, hfz25_1, hfz25_2, hfz25_3, hfz25_4, hfz25_5, hfz25_6, hfz25_7, hfz25_8, hfz25_9⟩ := fz10 BK178.out) | ((with_reducible refine gate_callee (f := 40) rfl ?_); refine goesL_ (some 5) rfl rfl Try.func40 (by kernel_rfl) rfl #[.int .i64 a0_0, .int .i64 0, .int .i64 4] rfl Z5x4 ?_; (with_reducible refine (impl_within.calls a0_0 0 4 false _ A2.out).mono ?_); rintro e w' ⟨rfl, ⟨nd, rfl⟩⟩; refine ⟨_, rfl, ?_⟩))
  go_ret
  exact ⟨Z5x5, Z5x1⟩

mutual
def impl_SetApart.j0 : Nat → List (S70) → List (S70) → Bool → Option (Bool)
 | 0, _, _, _ => none
 | k + 1, x0, x1, x16 => if x16 = true then (some false) else (impl_SetApart.l0 k x1 x0 (x0.length : Int) 0)
def impl_SetApart.l0 : Nat → List (S70) → List (S70) → Int → Int → Option (Bool)
 | 0, _, _, _, _ => none
 | k + 1, x1, x17, x18, x19 => if x19 < x18 then (if 0 ≤ x19 then (if x19 < (x17.length : Int) then (impl_SetApart.l1 k x1 x17 x18 x19 x1 (x1.length : Int) 0 ((rd_T70 x17 x19).f0) ((rd_T70 x17 x19).f1)) else (none)) else (none)) else (some true)
def impl_SetApart.l1 : Nat → List (S70) → List (S70) → Int → Int → List (S70) → Int → Int → Int → Int → Option (Bool)
 | 0, _, _, _, _, _, _, _, _, _ => none
 | k + 1, x1, x17, x18, x19, x23, x24, x25, x187000, x187001 => if x25 < x24 then (if 0 ≤ x25 then (if x25 < (x23.length : Int) then (if x187000 ≤ ((rd_T70 x23 x25).f1) then (if ((rd_T70 x23 x25).f0) ≤ x187001 then (some false) else (impl_SetApart.l1 k x1 x17 x18 x19 x23 x24 (wrap64 (x25 + 1)) x187000 x187001)) else (impl_SetApart.l1 k x1 x17 x18 x19 x23 x24 (wrap64 (x25 + 1)) x187000 x187001)) else (none)) else (none)) else (impl_SetApart.l0 k x1 x17 x18 (wrap64 (x19 + 1)))
end
def impl_SetApart.f (k : Nat) (l0 : List (S70)) (l1 : List (S70)) : Option (Bool) := (impl_SetOk.f k l0).bind fun t183 => (if t183 = true then ((impl_SetOk.f k l1).bind fun t184 => (impl_SetApart.j0 k l0 l1 (!t184))) else (impl_SetApart.j0 k l0 l1 true))
theorem impl_SetApart.mono_l : ∀ k, (∀ y0 y1 y2, LeO (impl_SetApart.j0 k y0 y1 y2) (impl_SetApart.j0 (k + 1) y0 y1 y2)) ∧ (∀ y0 y1 y2 y3, LeO (impl_SetApart.l0 k y0 y1 y2 y3) (impl_SetApart.l0 (k + 1) y0 y1 y2 y3)) ∧ (∀ y0 y1 y2 y3 y4 y5 y6 y7 y8, LeO (impl_SetApart.l1 k y0 y1 y2 y3 y4 y5 y6 y7 y8) (impl_SetApart.l1 (k + 1) y0 y1 y2 y3 y4 y5 y6 y7 y8))
 | 0 => ⟨fun _ _ _ r h => by simp [impl_SetApart.j0] at h, fun _ _ _ _ r h => by simp [impl_SetApart.l0] at h, fun _ _ _ _ _ _ _ _ _ r h => by simp [impl_SetApart.l1] at h⟩
 | k + 1 => by
  obtain ⟨ih0, ih1, ih2⟩ := impl_SetApart.mono_l k
  refine ⟨?_, ?_, ?_⟩
  ·intro y0 y1 y2
   unfold impl_SetApart.j0
   repeat' first
   | (with_reducible exact ih0 _ _ _)
   | (with_reducible exact ih1 _ _ _ _)
   | (with_reducible exact ih2 _ _ _ _ _ _ _ _ _)
   | (with_reducible exact impl_SetOk.mono _ _)
   | (with_reducible exact LeO.refl _)
   | (with_reducible exact LeO.none _)
   | (with_reducible refine LeO.ite ?_ ?_)
   | (with_reducible refine LeO.bind ?_ (fun _ => ?_))
   | exact ih0 _ _ _
   | exact ih1 _ _ _ _
   | exact ih2 _ _ _ _ _ _ _ _ _
   | exact impl_SetOk.mono _ _
   | exact LeO.none _
   | refine LeO.ite ?_ ?_
   | refine LeO.bind ?_ (fun _ => ?_)
  ·intro y0 y1 y2 y3
   unfold impl_SetApart.l0
   repeat' first
   | (with_reducible exact ih0 _ _ _)
   | (with_reducible exact ih1 _ _ _ _)
   | (with_reducible exact ih2 _ _ _ _ _ _ _ _ _)
   | (with_reducible exact impl_SetOk.mono _ _)
   | (with_reducible exact LeO.refl _)
   | (with_reducible exact LeO.none _)
   | (with_reducible refine LeO.ite ?_ ?_)
   | (with_reducible refine LeO.bind ?_ (fun _ => ?_))
   | exact ih0 _ _ _
   | exact ih1 _ _ _ _
   | exact ih2 _ _ _ _ _ _ _ _ _
   | exact impl_SetOk.mono _ _
   | exact LeO.none _
   | refine LeO.ite ?_ ?_
   | refine LeO.bind ?_ (fun _ => ?_)
  ·intro y0 y1 y2 y3 y4 y5 y6 y7 y8
   unfold impl_SetApart.l1
   repeat' first
   | (with_reducible exact ih0 _ _ _)
   | (with_reducible exact ih1 _ _ _ _)
   | (with_reducible exact ih2 _ _ _ _ _ _ _ _ _)
   | (with_reducible exact impl_SetOk.mono _ _)
   | (with_reducible exact LeO.refl _)
   | (with_reducible exact LeO.none _)
   | (with_reducible refine LeO.ite ?_ ?_)
   | (with_reducible refine LeO.bind ?_ (fun _ => ?_))
   | exact ih0 _ _ _
   | exact ih1 _ _ _ _
   | exact ih2 _ _ _ _ _ _ _ _ _
   | exact impl_SetOk.mono _ _
   | exact LeO.none _
   | refine LeO.ite ?_ ?_
   | refine LeO.bind ?_ (fun _ => ?_)
theorem impl_SetApart.mono : ∀ a0 a1 k, LeO (impl_SetApart.f k a0 a1) (impl_SetApart.f (k + 1) a0 a1) := by
 intro a0 a1 k
 obtain ⟨ih0, ih1, ih2⟩ := impl_SetApart.mono_l k
 unfold impl_SetApart.f
 repeat' first
   | (with_reducible exact ih0 _ _ _)
   | (with_reducible exact ih1 _ _ _ _)
   | (with_reducible exact ih2 _ _ _ _ _ _ _ _ _)
   | (with_reducible exact impl_SetOk.mono _ _)
   | (with_reducible exact LeO.refl _)
   | (with_reducible exact LeO.none _)
   | (with_reducible refine LeO.ite ?_ ?_)
   | (with_reducible refine LeO.bind ?_ (fun _ => ?_))
   | exact ih0 _ _ _
   | exact ih1 _ _ _ _
   | exact ih2 _ _ _ _ _ _ _ _ _
   | exact impl_SetOk.mono _ _
   | exact LeO.none _
   | refine LeO.ite ?_ ?_
   | refine LeO.bind ?_ (fun _ => ?_)
set_option maxHeartbeats 8000000 in
set_option maxRecDepth 100000 in
theorem impl_SetApart.calls (k : Nat) (A0 : Option Addr) (c0 : Nat) (l0 : List (S70)) (A1 : Option Addr) (c1 : Nat) (l1 : List (S70)) (r : Bool) (w : World) (hr0 : Kd.C k70 w A0 l0.length l0) (hc0 : l0.length ≤ c0) (hr1 : Kd.C k70 w A1 l1.length l1) (hc1 : l1.length ≤ c1) (h : impl_SetApart.f k l0 l1 = some r) :
  Calls Try.prog 58 #[.slice A0 l0.length c0, .slice A1 l1.length c1] w fun e w' => e = .returned (.bool r) ∧ Below w.heap.size w w' := by
 have hu70 := Try.underlying70
 have HR0 := Aside0.mk hr0
 have HC0 := Aside0.mk hc0
 clear hr0 hc0
 have HR1 := Aside0.mk hr1
 have HC1 := Aside0.mk hc1
 clear hr1 hc1
 have HB := Aside0.mk (Below.refl w.heap.size w)
 have H : ((impl_SetOk.f k l0).bind fun t183 => (if t183 = true then ((impl_SetOk.f k l1).bind fun t184 => (impl_SetApart.j0 k l0 l1 (!t184))) else (impl_SetApart.j0 k l0 l1 true))) = some r := h
 clear h
 have HC3 := Aside0.mk H
 clear H
 go_enter Try.func58, Try.ntmps58
 go_upto_region 1 with (fail)
 go_cut [16] (fun v16 wc => ∃ (kq : Nat) (x16_2 : Bool), v16 = .bool x16_2 ∧ Aside0 (impl_SetApart.j0 kq l0 l1 x16_2 = some r) ∧ Aside0 (kq ≤ k) ∧ Aside0 (Below w.heap.size w wc))
 case first =>
  have H := HC3.out
  clear HC3
  replace H := Option.bind_eq_some_iff.mp H
  obtain ⟨t183, A40, H⟩ := H
  replace H : (if t183 = true then ((impl_SetOk.f k l1).bind fun t184 => (impl_SetApart.j0 k l0 l1 (!t184))) else (impl_SetApart.j0 k l0 l1 true)) = some r := H
  have A4 := Aside0.mk A40
  clear A40
  by_cases c5 : t183 = true
  ·subst c5
   have H1 : ((impl_SetOk.f k l1).bind fun t184 => (impl_SetApart.j0 k l0 l1 (!t184))) = some r := by rw [if_pos rfl] at H; exact H
   clear H
   have H := H1
   clear H1
   replace H := Option.bind_eq_some_iff.mp H
   obtain ⟨t184, A60, H⟩ := H
   replace H : (impl_SetApart.j0 k l0 l1 (!t184)) = some r := H
   have A6 := Aside0.mk A60
   clear A60
   have H' := Aside0.mk H
   clear H
   go_wp2_with (first | ((with_reducible refine gate_callee (f := 43) rfl ?_); refine goesL_ (some 10) rfl rfl Try.func43 (by kernel_rfl) rfl #[.slice A0 l0.length c0] rfl Z5x4 ?_; (with_reducible refine (impl_SetOk.calls k _ _ l0 true _ ?side1 ?side2 A4.out).mono ?_); (case side1 => repeat (first | exact (Kd.C_below HR0.out HB.out) | (with_reducible refine Kd.C_alloc ?_ _) | (with_reducible refine Kd.C_drewN ?_ _) | (with_reducible refine Kd.C_drew ?_))); (case side2 => exact HC0.out); rintro e w7 ⟨rfl, hb⟩; refine ⟨_, rfl, ?_⟩; have n0_ := Aside0.mk (below_step Z5x0 hb); clear HB; have HB := n0_; clear n0_; (try clear hb); (try clear hb2); (try clear hk); (try clear hi)) | (go_at_call 43; (with_reducible refine (impl_SetOk.calls k _ _ l1 t184 _ ?side1 ?side2 A6.out).mono ?_); (case side1 => repeat (first | exact (Kd.C_below HR1.out HB.out) | (with_reducible refine Kd.C_alloc ?_ _) | (with_reducible refine Kd.C_drewN ?_ _) | (with_reducible refine Kd.C_drew ?_))); (case side2 => exact HC1.out); rintro e w8 ⟨rfl, hb⟩; have n0_ := Aside0.mk (below_step Z5x0 hb); clear HB; have HB := n0_; clear n0_; (try clear hb); (try clear hb2); (try clear hk); (try clear hi)))
   (first | go_meet | (refine Met.intro ?_; go_step; (repeat apply Exists.intro); refine ⟨?rel, ?eqs⟩; case eqs => ((try rw [show (!true) = true from by assumption]); (try rw [show (!true) = false from by assumption]); (try rw [show (!t184) = true from by assumption]); (try rw [show (!t184) = false from by assumption]); (try rfl))))
   case rel => exact ⟨_, (!t184), Z5x14, H', ⟨by first | omega | exact Nat.le_refl _⟩, ⟨Z5x0⟩⟩
  ·replace c5 := Bool.eq_false_iff.mpr c5
   subst c5
   have H1 : (impl_SetApart.j0 k l0 l1 true) = some r := by rw [if_neg (show ¬ (false = true) by decide)] at H; exact H
   clear H
   have H := H1
   clear H1
   have H' := Aside0.mk H
   clear H
   go_wp2_with (first | ((with_reducible refine gate_callee (f := 43) rfl ?_); refine goesL_ (some 10) rfl rfl Try.func43 (by kernel_rfl) rfl #[.slice A0 l0.length c0] rfl Z5x4 ?_; (with_reducible refine (impl_SetOk.calls k _ _ l0 false _ ?side1 ?side2 A4.out).mono ?_); (case side1 => repeat (first | exact (Kd.C_below HR0.out HB.out) | (with_reducible refine Kd.C_alloc ?_ _) | (with_reducible refine Kd.C_drewN ?_ _) | (with_reducible refine Kd.C_drew ?_))); (case side2 => exact HC0.out); rintro e w9 ⟨rfl, hb⟩; refine ⟨_, rfl, ?_⟩; have n0_ := Aside0.mk (below_step Z5x0 hb); clear HB; have HB := n0_; clear n0_; (try clear hb); (try clear hb2); (try clear hk); (try clear hi)))
   (first | go_meet | (refine Met.intro ?_; go_step; (repeat apply Exists.intro); refine ⟨?rel, ?eqs⟩; case eqs => ((try rw [show (!false) = true from by assumption]); (try rw [show (!false) = false from by assumption]); (try rfl))))
   case rel => exact ⟨_, (true), Z5x14, H', ⟨by first | omega | exact Nat.le_refl _⟩, ⟨Z5x0⟩⟩
 case rest =>
  clear HC3
  try clear c1
  try clear p2
  try clear c4
  try clear c5
  obtain ⟨kq, x16_2, rfl, HA, HJ2, HB⟩ := hcut
  cases kq with
  | zero => exact absurd HA.out (by simp [impl_SetApart.j0])
  | succ kj2 =>
   have H := HA.out
   clear HA
   simp only [impl_SetApart.j0] at H
   by_cases c10 : x16_2 = true
   ·subst c10
    have H1 : (some false) = some r := by rw [if_pos rfl] at H; exact H
    clear H;have H := H1;clear H1;obtain rfl := Option.some.inj H;simp only [Option.some.injEq, Prod.mk.injEq] at H;obtain ⟨rfl⟩ := H
    go_wp2
    go_ret
    exact ⟨Z5x5, Z5x0⟩
   ·replace c10 := Bool.eq_false_iff.mpr c10
    subst c10
    have H1 : (impl_SetApart.l0 kj2 l1 l0 (l0.length : Int) 0) = some r := by rw [if_neg (show ¬ (false = true) by decide)] at H; exact H
    clear H;have H := H1;clear H1;have H' := Aside0.mk H;clear H
    go_wp2
    go_loopg [19] kj2 (fun kq v19 w' => ∃ (x19_2 : Int), v19 = .int .i64 x19_2 ∧ Aside0 (impl_SetApart.l0 kq l1 l0 (l0.length : Int) x19_2 = some r) ∧ Aside0 (kq ≤ kj2) ∧ Aside0 (Below w.heap.size w w'))
    case atStart => exact ⟨(0), Z5x14, H', ⟨Nat.le_refl _⟩, ⟨Z5x0⟩⟩
    case round =>
     clear H'
     try clear c1
     try clear p2
     try clear c4
     try clear c5
     try clear c10
     try clear p2
     obtain ⟨x19_2, rfl, HA, HK2, HB⟩ := hrel
     cases gk with
     | zero => exact absurd HA.out (by simp [impl_SetApart.l0])
     | succ k2 =>
      have H := HA.out;clear HA;simp only [impl_SetApart.l0] at H
      by_cases c11 : x19_2 < (l0.length : Int)
      ·rw [if_pos c11] at H
       have c11b0 : decide (x19_2 < (l0.length : Int)) = true := decide_eq_true c11;clear c11
       by_cases c12 : 0 ≤ x19_2
       ·rw [if_pos c12] at H
        have c12b0 : decide (0 ≤ x19_2) = true := decide_eq_true c12;clear c12
        by_cases c13 : x19_2 < (l0.length : Int)
        ·rw [if_pos c13] at H
         have c13b0 : decide (x19_2 < (l0.length : Int)) = true := decide_eq_true c13;clear c13;have H' := Aside0.mk H;clear H;have p185 : 0 ≤ (x19_2 : Int) := of_decide_eq_true Z5x11;have q185 : x19_2 < (l0.length : Int) := of_decide_eq_true Z5x11;obtain ⟨ad185, e185, hx185_0, hx185_1⟩ := at_T70 HR0.out x19_2 p185 q185
         cases e185
         replace hx185_0 := czB HB.out hx185_0;replace hx185_1 := czB HB.out hx185_1;replace p185 := eq_true p185;replace q185 := eq_true q185
         go_wp2_with (first | ((with_reducible refine gate_dst (N := 6) rfl ?_); refine box_event ?hg (N := 6) ?hd (cs := #[.int .i64 0, .int .i64 0]) (t := 70) ?hr ?_; (case hd => rfl); (case hg => rfl); (case hr => first | (go_simp; done) | (go_simp; rfl)); intro gb186 hg w14 hbox hb; have n0_ := Aside0.mk (below_step Z5x0 hb); have n1_ := Aside0.mk (hbox); have n2_ := Aside0.mk ((Z5x10 : w.heap.size ≤ gb186)); have n3_ := Aside0.mk ((Z5x10 : w.heap.size ≤ gb186)); clear HB; have HB := n0_; have BK186 := n1_; have GW186 := n2_; have GE186 := n3_; clear n0_ n1_ n2_ n3_; clear hb hbox hg; have hcz15_0 : w14.cell? ⟨gb186, 0, none⟩ = some (.int .i64 0) := (blk_cell BK186.out 0).trans rfl; have hcz15_1 : w14.cell? ⟨gb186, 1, none⟩ = some (.int .i64 0) := (blk_cell BK186.out 1).trans rfl; have hfz15_0 := blk_frozen BK186.out 0; have hfz15_1 := blk_frozen BK186.out 1))
         go_loopg [25] k2 (fun kq v25 w' => ∃ (x25_3 : Int), v25 = .int .i64 x25_3 ∧ Aside0 (impl_SetApart.l1 kq l1 l0 (l0.length : Int) x19_2 l1 (l1.length : Int) x25_3 ((rd_T70 l0 x19_2).f0) ((rd_T70 l0 x19_2).f1) = some r) ∧ Aside0 (kq ≤ k2) ∧ Aside0 (w'.heap[gb186]? = some (.cells #[.int .i64 ((rd_T70 l0 x19_2).f0), .int .i64 ((rd_T70 l0 x19_2).f1)] 70 (0, 0))) ∧ Aside0 (Below w.heap.size w w'))
         case atStart => exact ⟨(0), Z5x14, H', ⟨Nat.le_refl _⟩, ⟨by (with_reducible repeat (first | refine blk_drewN ?_ _ | refine blk_drew ?_ | refine blk_alloc ?_ _)); refine blk_put (cs := #[.int .i64 ((rd_T70 l0 x19_2).f0), .int .i64 0]) ?_ 1 _ rfl; (with_reducible repeat (first | refine blk_drewN ?_ _ | refine blk_drew ?_ | refine blk_alloc ?_ _)); refine blk_put (cs := #[.int .i64 0, .int .i64 0]) ?_ 0 _ rfl; (with_reducible repeat (first | refine blk_drewN ?_ _ | refine blk_drew ?_ | refine blk_alloc ?_ _)); exact BK186.out⟩, ⟨Z5x2⟩⟩
         case round =>
          clear H'
          try clear c1
          try clear p1
          try clear q1
          try clear hx1
          try clear p2
          try clear c4
          try clear c5
          try clear c10
          try clear c11
          try clear c11b0
          try clear c12
          try clear c12b0
          try clear c13
          try clear c13b0
          try clear hcz15_0 hcz15_1
          try clear hfz15_0 hfz15_1
          try clear hx185_0
          try clear hx185_1
          try clear p185
          try clear p2
          try clear q185
          (try clear BK186)
          obtain ⟨x25_3, rfl, HA, HK3, BK186, HB⟩ := hrel
          cases gk with
          | zero => exact absurd HA.out (by simp [impl_SetApart.l1])
          | succ k3 =>
           have H := HA.out;clear HA;simp only [impl_SetApart.l1] at H
           by_cases c16 : x25_3 < (l1.length : Int)
           ·rw [if_pos c16] at H
            have c16b0 : decide (x25_3 < (l1.length : Int)) = true := decide_eq_true c16;clear c16
            by_cases c17 : 0 ≤ x25_3
            ·rw [if_pos c17] at H
             have c17b0 : decide (0 ≤ x25_3) = true := decide_eq_true c17;clear c17
             by_cases c18 : x25_3 < (l1.length : Int)
             ·rw [if_pos c18] at H
              have c18b0 : decide (x25_3 < (l1.length : Int)) = true := decide_eq_true c18;clear c18
              by_cases c19 : ((rd_T70 l0 x19_2).f0) ≤ ((rd_T70 l1 x25_3).f1)
              ·rw [if_pos c19] at H
               have c19b0 : decide (((rd_T70 l0 x19_2).f0) ≤ ((rd_T70 l1 x25_3).f1)) = true := decide_eq_true c19;clear c19
               by_cases c20 : ((rd_T70 l1 x25_3).f0) ≤ ((rd_T70 l0 x19_2).f1)
               ·rw [if_pos c20] at H
                have c20b0 : decide (((rd_T70 l1 x25_3).f0) ≤ ((rd_T70 l0 x19_2).f1)) = true := decide_eq_true c20;clear c20;obtain rfl := Option.some.inj H;simp only [Option.some.injEq, Prod.mk.injEq] at H;obtain ⟨rfl⟩ := H;have p187 : 0 ≤ (x25_3 : Int) := of_decide_eq_true Z5x11;have q187 : x25_3 < (l1.length : Int) := of_decide_eq_true Z5x11;obtain ⟨ad187, e187, hx187_0, hx187_1⟩ := at_T70 HR1.out x25_3 p187 q187
                cases e187
                replace hx187_0 := czB HB.out hx187_0;replace hx187_1 := czB HB.out hx187_1;replace p187 := eq_true p187;replace q187 := eq_true q187
                go_wp2_with (first | ((with_reducible refine gate_dst (N := 8) rfl ?_); refine box_event ?hg (N := 8) ?hd (cs := #[.int .i64 0, .int .i64 0]) (t := 70) ?hr ?_; (case hd => rfl); (case hg => rfl); (case hr => first | (go_simp; done) | (go_simp; rfl)); intro gb188 hg w21 hbox hb; have n0_ := Aside0.mk (blk_below (g := gb186) (o := .cells #[.int .i64 ((rd_T70 l0 x19_2).f0), .int .i64 ((rd_T70 l0 x19_2).f1)] 70 (0, 0)) Z5x3 hb); have n1_ := Aside0.mk (below_step Z5x2 hb); have n2_ := Aside0.mk (hbox); have n3_ := Aside0.mk ((by rw [hg]; exact (below_size Z5x2) : w.heap.size ≤ gb188)); have n4_ := Aside0.mk ((by rw [hg]; exact (below_size Z5x2) : w.heap.size ≤ gb188)); have n5_ := Aside0.mk ((Z5x12 : gb186 ≠ gb188)); have n6_ := Aside0.mk ((Z5x13 : gb188 ≠ gb186)); clear BK186; clear HB; have BK186 := n0_; have HB := n1_; have BK188 := n2_; have GW188 := n3_; have GE188 := n4_; have NB186_188 := n5_; have NB188_186 := n6_; clear n0_ n1_ n2_ n3_ n4_ n5_ n6_; clear hb hbox hg; have hnb22 := NB188_186.out; have hnc22 := NB186_188.out; have hcz23_0 : w21.cell? ⟨gb188, 0, none⟩ = some (.int .i64 0) := (blk_cell BK188.out 0).trans rfl; have hcz23_1 : w21.cell? ⟨gb188, 1, none⟩ = some (.int .i64 0) := (blk_cell BK188.out 1).trans rfl; have hfz23_0 := blk_frozen BK188.out 0; have hfz23_1 := blk_frozen BK188.out 1; have hcz24_0 : w21.cell? ⟨gb186, 0, none⟩ = some (.int .i64 ((rd_T70 l0 x19_2).f0)) := (blk_cell BK186.out 0).trans rfl; have hcz24_1 : w21.cell? ⟨gb186, 1, none⟩ = some (.int .i64 ((rd_T70 l0 x19_2).f1)) := (blk_cell BK186.out 1).trans rfl; have hfz24_0 := blk_frozen BK186.out 0; have hfz24_1 := blk_frozen BK186.out 1))
                go_ret
                exact ⟨Z5x5, Z5x7⟩
               ·rw [if_neg c20] at H
                have c20b0 : decide (((rd_T70 l1 x25_3).f0) ≤ ((rd_T70 l0 x19_2).f1)) = false := decide_eq_false c20;clear c20;have H' := Aside0.mk H;clear H;have p187 : 0 ≤ (x25_3 : Int) := of_decide_eq_true Z5x11;have q187 : x25_3 < (l1.length : Int) := of_decide_eq_true Z5x11;obtain ⟨ad187, e187, hx187_0, hx187_1⟩ := at_T70 HR1.out x25_3 p187 q187
                cases e187
                replace hx187_0 := czB HB.out hx187_0;replace hx187_1 := czB HB.out hx187_1;replace p187 := eq_true p187;replace q187 := eq_true q187
                go_wp2_with (first | ((with_reducible refine gate_dst (N := 8) rfl ?_); refine box_event ?hg (N := 8) ?hd (cs := #[.int .i64 0, .int .i64 0]) (t := 70) ?hr ?_; (case hd => rfl); (case hg => rfl); (case hr => first | (go_simp; done) | (go_simp; rfl)); intro gb188 hg w25 hbox hb; have n0_ := Aside0.mk (blk_below (g := gb186) (o := .cells #[.int .i64 ((rd_T70 l0 x19_2).f0), .int .i64 ((rd_T70 l0 x19_2).f1)] 70 (0, 0)) Z5x3 hb); have n1_ := Aside0.mk (below_step Z5x2 hb); have n2_ := Aside0.mk (hbox); have n3_ := Aside0.mk ((by rw [hg]; exact (below_size Z5x2) : w.heap.size ≤ gb188)); have n4_ := Aside0.mk ((by rw [hg]; exact (below_size Z5x2) : w.heap.size ≤ gb188)); have n5_ := Aside0.mk ((Z5x12 : gb186 ≠ gb188)); have n6_ := Aside0.mk ((Z5x13 : gb188 ≠ gb186)); clear BK186; clear HB; have BK186 := n0_; have HB := n1_; have BK188 := n2_; have GW188 := n3_; have GE188 := n4_; have NB186_188 := n5_; have NB188_186 := n6_; clear n0_ n1_ n2_ n3_ n4_ n5_ n6_; clear hb hbox hg; have hnb26 := NB188_186.out; have hnc26 := NB186_188.out; have hcz27_0 : w25.cell? ⟨gb188, 0, none⟩ = some (.int .i64 0) := (blk_cell BK188.out 0).trans rfl; have hcz27_1 : w25.cell? ⟨gb188, 1, none⟩ = some (.int .i64 0) := (blk_cell BK188.out 1).trans rfl; have hfz27_0 := blk_frozen BK188.out 0; have hfz27_1 := blk_frozen BK188.out 1; have hcz28_0 : w25.cell? ⟨gb186, 0, none⟩ = some (.int .i64 ((rd_T70 l0 x19_2).f0)) := (blk_cell BK186.out 0).trans rfl; have hcz28_1 : w25.cell? ⟨gb186, 1, none⟩ = some (.int .i64 ((rd_T70 l0 x19_2).f1)) := (blk_cell BK186.out 1).trans rfl; have hfz28_0 := blk_frozen BK186.out 0; have hfz28_1 := blk_frozen BK186.out 1))
                go_roundg k3
                case measure => have := HJ2.out; have := HK2.out; have := HK3.out; omega
                case rel => exact ⟨(wrap64 (x25_3 + 1)), Z5x14, H', ⟨by have := HJ2.out; have := HK2.out; have := HK3.out; omega⟩, ⟨Z5x6⟩, ⟨Z5x7⟩⟩
              ·rw [if_neg c19] at H
               have c19b0 : decide (((rd_T70 l0 x19_2).f0) ≤ ((rd_T70 l1 x25_3).f1)) = false := decide_eq_false c19;clear c19;have H' := Aside0.mk H;clear H;have p187 : 0 ≤ (x25_3 : Int) := of_decide_eq_true Z5x11;have q187 : x25_3 < (l1.length : Int) := of_decide_eq_true Z5x11;obtain ⟨ad187, e187, hx187_0, hx187_1⟩ := at_T70 HR1.out x25_3 p187 q187
               cases e187
               replace hx187_0 := czB HB.out hx187_0;replace hx187_1 := czB HB.out hx187_1;replace p187 := eq_true p187;replace q187 := eq_true q187
               go_wp2_with (first | ((with_reducible refine gate_dst (N := 8) rfl ?_); refine box_event ?hg (N := 8) ?hd (cs := #[.int .i64 0, .int .i64 0]) (t := 70) ?hr ?_; (case hd => rfl); (case hg => rfl); (case hr => first | (go_simp; done) | (go_simp; rfl)); intro gb188 hg w29 hbox hb; have n0_ := Aside0.mk (blk_below (g := gb186) (o := .cells #[.int .i64 ((rd_T70 l0 x19_2).f0), .int .i64 ((rd_T70 l0 x19_2).f1)] 70 (0, 0)) Z5x3 hb); have n1_ := Aside0.mk (below_step Z5x2 hb); have n2_ := Aside0.mk (hbox); have n3_ := Aside0.mk ((by rw [hg]; exact (below_size Z5x2) : w.heap.size ≤ gb188)); have n4_ := Aside0.mk ((by rw [hg]; exact (below_size Z5x2) : w.heap.size ≤ gb188)); have n5_ := Aside0.mk ((Z5x12 : gb186 ≠ gb188)); have n6_ := Aside0.mk ((Z5x13 : gb188 ≠ gb186)); clear BK186; clear HB; have BK186 := n0_; have HB := n1_; have BK188 := n2_; have GW188 := n3_; have GE188 := n4_; have NB186_188 := n5_; have NB188_186 := n6_; clear n0_ n1_ n2_ n3_ n4_ n5_ n6_; clear hb hbox hg; have hnb30 := NB188_186.out; have hnc30 := NB186_188.out; have hcz31_0 : w29.cell? ⟨gb188, 0, none⟩ = some (.int .i64 0) := (blk_cell BK188.out 0).trans rfl; have hcz31_1 : w29.cell? ⟨gb188, 1, none⟩ = some (.int .i64 0) := (blk_cell BK188.out 1).trans rfl; have hfz31_0 := blk_frozen BK188.out 0; have hfz31_1 := blk_frozen BK188.out 1; have hcz32_0 : w29.cell? ⟨gb186, 0, none⟩ = some (.int .i64 ((rd_T70 l0 x19_2).f0)) := (blk_cell BK186.out 0).trans rfl; have hcz32_1 : w29.cell? ⟨gb186, 1, none⟩ = some (.int .i64 ((rd_T70 l0 x19_2).f1)) := (blk_cell BK186.out 1).trans rfl; have hfz32_0 := blk_frozen BK186.out 0; have hfz32_1 := blk_frozen BK186.out 1))
               go_roundg k3
               case measure => have := HJ2.out; have := HK2.out; have := HK3.out; omega
               case rel => exact ⟨(wrap64 (x25_3 + 1)), Z5x14, H', ⟨by have := HJ2.out; have := HK2.out; have := HK3.out; omega⟩, ⟨Z5x6⟩, ⟨Z5x7⟩⟩
             ·rw [if_neg c18] at H
              exact absurd H (by simp)
            ·rw [if_neg c17] at H
             exact absurd H (by simp)
           ·rw [if_neg c16] at H
            have c16b0 : decide (x25_3 < (l1.length : Int)) = false := decide_eq_false c16;clear c16;have H' := Aside0.mk H;clear H
            go_wp2
            go_roundg k3
            case measure => have := HJ2.out; have := HK2.out; have := HK3.out; omega
            case rel => exact ⟨(wrap64 (x19_2 + 1)), Z5x14, H', ⟨by have := HJ2.out; have := HK2.out; have := HK3.out; omega⟩, ⟨Z5x2⟩⟩
        ·rw [if_neg c13] at H
         exact absurd H (by simp)
       ·rw [if_neg c12] at H
        exact absurd H (by simp)
      ·rw [if_neg c11] at H
       have c11b0 : decide (x19_2 < (l0.length : Int)) = false := decide_eq_false c11;clear c11;obtain rfl := Option.some.inj H;simp only [Option.some.injEq, Prod.mk.injEq] at H;obtain ⟨rfl⟩ := H
       go_wp2
       go_ret
       exact ⟨Z5x5, Z5x0⟩

def impl_copySet.f (l0 : List (S70)) : Option ((List (S70))) := if ([] : List (S70)).length + l0.length < 8796093022208 then (some (([] : List (S70)) ++ l0)) else (none)
set_option maxHeartbeats 8000000 in
set_option maxRecDepth 100000 in
theorem impl_copySet.calls (A0 : Option Addr) (c0 : Nat) (l0 : List (S70)) (r : List (S70)) (w : World) (hr0 : Kd.C k70 w A0 l0.length l0) (hc0 : l0.length ≤ c0) (h : impl_copySet.f l0 = some r) :
  Calls Try.prog 90 #[.slice A0 l0.length c0] w fun e w' => ∃ v0_ : Value, e = .returned (v0_) ∧ Kd.R k70 70 w' w.heap.size (fun _ => True) v0_ r ∧ Below w.heap.size w w' := by
 have HR0 := Aside0.mk hr0
 have HC0 := Aside0.mk hc0
 clear hr0 hc0
 have HB := Aside0.mk (Below.refl w.heap.size w)
 have H : (if ([] : List (S70)).length + l0.length < 8796093022208 then (some (([] : List (S70)) ++ l0)) else (none)) = some r := h
 clear h
 by_cases c2 : ([] : List (S70)).length + l0.length < 8796093022208
 ·rw [if_pos c2] at H
  have LMc2 := Aside0.mk c2
  clear c2
  obtain ⟨y189, hy189⟩ : ∃ y_ : List (S70), y_ = (([] : List (S70)) ++ l0) := ⟨_, rfl⟩
  replace H : (some y189) = some r := by first | (rw [hy189]; with_reducible exact H) | (have H2_ := (Option.bind_some _ _).symm.trans H; rw [hy189]; with_reducible exact H2_) | (have H2_ := (Option.bind_some _ _).symm.trans H; with_reducible exact H2_) | with_reducible exact H | (rw [hy189]; exact H) | exact H
  have Ny189 := Aside0.mk hy189
  clear hy189
  obtain rfl := Option.some.inj H
  simp only [Option.some.injEq, Prod.mk.injEq] at H
  obtain ⟨rfl⟩ := H
  go_enter Try.func90, Try.ntmps90
  go_wp2_with (first | ((with_reducible refine gate_builtin (b := .append) (xs := #[.const (.slice none 0 0), .tmp 3]) rfl ?_); at_builtin; refine Kd.R_append_rows k70 (w0 := w) w.heap.size rfl (.const (.slice none 0 0)) (.tmp 3) 32 70 (.agg #[(.int .i64 0), (.int .i64 0)]) 16 rfl Try.underlying32 info70 rfl (by decide) (by omega) (.slice none 0 0) ([] : List (S70)) l0 _ _ _ (fun _ => True) (fun _ => False) rfl rfl ?aO ?aR (fun _ _ h => h) (fun _ h => h.elim) ?aF ?aB ?aS ?aL ?_; (case aR => repeat (first | exact HR0.out | (with_reducible refine Kd.C_alloc ?_ _) | (with_reducible refine Kd.C_drewN ?_ _) | (with_reducible refine Kd.C_drew ?_))); (case aB => exact Z5x0); (case aF => exact (fun _ _ => trivial)); (case aO => exact ((Kd.R_nil _ _ _ _ (fun _ => True)))); (case aS => exact (below_size Z5x0)); (case aL => have := LMc2.out; omega); intro v190 w3 ho hb hg hat; rw [← Ny189.out] at ho; have n0_ := Aside0.mk (hb); have n1_ := Aside0.mk (ho); clear HB; have HB := n0_; have HO191 := n1_; clear n0_ n1_; clear ho hb hg hat))
  go_ret
  exact ⟨_, Z5x5, by (with_reducible repeat (first | apply Kd.R_alloc | apply Kd.R_drewN | apply Kd.R_drew)); exact HO191.out, Z5x0⟩
 ·rw [if_neg c2] at H
  exact absurd H (by simp)



















instance : Inhabited S70 := ⟨z70⟩
def sortEnc (x : S70) : List Value := [.int .i64 x.f0, .int .i64 x.f1]
def sortCf (x y : S70) : Int := Go.Lib.compareInt x.f0 y.f0
theorem sortCf_lt (x y : S70) : Go.Proofs.ltOf sortCf x y = decide (x.f0 < y.f0) := by
 unfold Go.Proofs.ltOf sortCf Go.Lib.compareInt
 by_cases h1 : x.f0 < y.f0
 ·simp [h1]
 ·by_cases h2 : y.f0 < x.f0 <;> simp [h1, h2]
theorem sort_swo : Go.Sort.SWO (Go.Proofs.ltOf sortCf) where
 irrefl x := by rw [sortCf_lt]; simp
 trans x y z h1 h2 := by rw [sortCf_lt] at *; simp at *; omega
 ntrans x y z h1 h2 := by rw [sortCf_lt] at *; simp at *; omega
def sortA (l : List S70) : Array S70 := Go.Sort.pdq (Go.Proofs.ltOf sortCf) l.toArray 0 l.toArray.size (Go.Lib.bitLen l.toArray.size) true true
theorem sortA_ok (l : List S70) : Go.Sort.PermIn 0 l.toArray.size l.toArray (sortA l) ∧ Go.Sort.SortedIn (Go.Proofs.ltOf sortCf) 0 l.toArray.size (sortA l) :=
 Go.Sort.pdq_sorts (Go.Proofs.ltOf sortCf) sort_swo l.toArray 0 l.toArray.size (Go.Lib.bitLen l.toArray.size) true true (Nat.zero_le _) (Nat.le_refl _) (Or.inl rfl)
theorem flat_get (d : Array S70) (j : Nat) (hj : j < d.size) : ((Go.Sort.flatK sortEnc 2 d).toList.drop (j * 2)).take 2 = sortEnc d[j]! := by
 have hs : (Go.Sort.flatK sortEnc 2 d).toList.length = d.size * 2 := by rw [Array.length_toList, Go.Sort.size_flatK]
 have g0 := Go.Sort.get_flatK sortEnc 2 d (j * 2) (by omega)
 have g1 := Go.Sort.get_flatK sortEnc 2 d (j * 2 + 1) (by omega)
 have e0 : j * 2 / 2 = j ∧ j * 2 % 2 = 0 ∧ (j * 2 + 1) / 2 = j ∧ (j * 2 + 1) % 2 = 1 := by omega
 rw [e0.1, e0.2.1] at g0
 rw [e0.2.2.1, e0.2.2.2] at g1
 rw [getElem!_pos (Go.Sort.flatK sortEnc 2 d) (j * 2) (by rw [Go.Sort.size_flatK]; omega)] at g0
 rw [getElem!_pos (Go.Sort.flatK sortEnc 2 d) (j * 2 + 1) (by rw [Go.Sort.size_flatK]; omega)] at g1
 rw [List.drop_eq_getElem_cons (by omega), List.drop_eq_getElem_cons (by omega)]
 simp only [List.take_succ_cons, List.take_zero, Array.getElem_toList]
 rw [g0, g1]
 rfl
theorem flat_at {l : List S70} {inner : List Value} (hl : inner.length = l.length * 2) (hr : ∀ j p, l[j]? = some p → (inner.drop (j * 2)).take 2 = sortEnc p) (t : Nat) (ht : t < l.length * 2) :
  inner[t]? = some (Go.Sort.flatK sortEnc 2 l.toArray)[t]! := by
 have hq : t / 2 < l.length := by omega
 have h := hr (t / 2) l[t / 2] (List.getElem?_eq_getElem hq)
 have h1 : ((inner.drop (t / 2 * 2)).take 2)[t % 2]? = inner[t]? := by
  rw [List.getElem?_take_of_lt (by omega), List.getElem?_drop]
  congr 1
  omega
 rw [← h1, h, Go.Sort.get_flatK sortEnc 2 l.toArray t (by simpa using ht)]
 have h2 : l.toArray[t / 2]! = l[t / 2] := by rw [getElem!_pos _ _ (by simpa using hq)]; simp
 rw [h2]
 have : t % 2 = 0 ∨ t % 2 = 1 := by omega
 rcases this with e | e <;> rw [e] <;> rfl
theorem flat_put (d : Array S70) (c : Array Value) (hc : d.size * 2 ≤ c.size) : (Go.Sort.putCells id 0 (Go.Sort.flatK sortEnc 2 d) c).toList.take (d.size * 2) = (Go.Sort.flatK sortEnc 2 d).toList := by
 have hs : (Go.Sort.flatK sortEnc 2 d).size = d.size * 2 := Go.Sort.size_flatK _ _ _
 refine List.ext_getElem (by simp [Go.Sort.putCells, hs]; omega) (fun t h1 h2 => ?_)
 have ht : t < d.size * 2 := by simpa [hs] using h2
 rw [List.getElem_take, Array.getElem_toList, Array.getElem_toList]
 unfold Go.Sort.putCells
 rw [Array.getElem_mapIdx, if_pos (by omega), Nat.sub_zero, getElem!_pos _ t (by rw [hs]; exact ht)]
 rfl
theorem sorted_row {W : World} {base g cap m : Nat} {ok : Nat → Prop} {l : List S70} {d : Array S70} {os : Array Obj} (h : Kd.R k70 70 W base ok (.slice (some ⟨g, 0, none⟩) l.length cap) l) (hl : 0 < l.length) (hd : d.size = l.length) :
  Go.Sort.HoldsK sortEnc 2 W g 0 l.toArray ∧ g < W.heap.size ∧ base ≤ g ∧ ok g ∧
  Kd.R k70 70 (Go.Proofs.sortWorldK sortEnc 2 W g 0 m d os) base ok (.slice (some ⟨g, 0, none⟩) l.length cap) d.toList ∧ W.grownBy (Go.Proofs.sortWorldK sortEnc 2 W g 0 m d os) (some g) := by
 obtain ⟨h0, inner, ⟨hn, ho⟩, hr1, hr2⟩ := h
 have hok := h0 g rfl
 rcases ho with ⟨_, ho⟩ | ⟨g', cap', cur, hv, hb, hg, hle, hmx, hsz, htk⟩
 ·omega
 injection hv with ha hb1 hc1
 injection ha with ha
 injection ha with ha
 subst ha hc1
 have hlt : g < W.heap.size := blk_lt hg
 have hsz2 : cur.size = cap * 2 := hsz
 have hn2 : inner.length = l.length * 2 := hn
 have htk2 : cur.toList.take (l.length * 2) = inner := htk
 have hin : ∀ j p, l[j]? = some p → (inner.drop (j * 2)).take 2 = sortEnc p := fun j p hj => k70_openM (hr2 j p hj)
 have hH : Go.Sort.HoldsK sortEnc 2 W g 0 l.toArray := by
  intro t ht
  have ht2 : t < l.length * 2 := by simpa using ht
  refine ⟨?_, blk_frozen hg _⟩
  have e1 := flat_at hn2 hin t ht2
  rw [Nat.zero_add, blk_cell hg t]
  rw [← htk2, List.getElem?_take_of_lt ht2, Array.getElem?_toList] at e1
  exact e1
 have hb2 : (Go.Proofs.sortWorldK sortEnc 2 W g 0 m d os).heap[g]? = some (.cells (Go.Sort.putCells id 0 (Go.Sort.flatK sortEnc 2 d) cur) 70 (0, 0)) := by
  unfold Go.Proofs.sortWorldK Go.Sort.putRowK Go.Sort.putRow
  rw [Go.Sort.heap_grow_old _ _ (by simp [Go.Sort.mapBlock, Go.Sort.ahead]; exact hlt)]
  simp only [Go.Sort.mapBlock, Go.Sort.ahead, Array.getElem?_modify, if_true]
  rw [hg]
  rfl
 refine ⟨hH, hlt, hb, hok, ⟨h0, (Go.Sort.flatK sortEnc 2 d).toList, ⟨?_, .inr ⟨g, cap, _, by rw [← hd, Array.length_toList], hb, hb2, by rw [Array.length_toList, hd]; exact hle, hmx, ?_, ?_⟩⟩, ?_, fun j p hj => ?_⟩, ?_⟩
 ·rw [Array.length_toList, Go.Sort.size_flatK, Array.length_toList]; rfl
 ·simp [Go.Sort.putCells]; exact hsz
 ·have := flat_put d cur (by rw [hd, hsz2]; omega)
  rw [Array.length_toList]
  exact this
 ·rw [Array.length_toList, Go.Sort.size_flatK, Array.length_toList]; rfl
 ·obtain ⟨hj1, hj2⟩ := List.getElem?_eq_some_iff.1 hj
  have hj3 : j < d.size := by simpa using hj1
  have e := flat_get d j hj3
  rw [getElem!_pos d j hj3] at e
  have e2 : d[j] = p := by rw [← hj2, Array.getElem_toList]
  rw [e2] at e
  show (k70).M _ _ _ _ (((Go.Sort.flatK sortEnc 2 d).toList.drop (j * 2)).take 2)
  rw [e]
  exact k70_mkM _ _ _ _
 ·refine ⟨rfl, rfl, rfl, Go.Proofs.size_sortWorldK_c _ _ _ _ _ _ _ _, fun i hi hn => ?_⟩
  have hne : i ≠ g := fun e => hn (by rw [e])
  unfold Go.Proofs.sortWorldK Go.Sort.putRowK Go.Sort.putRow
  rw [Go.Sort.heap_grow_old _ _ (by simp [Go.Sort.mapBlock, Go.Sort.ahead]; exact hi)]
  simp only [Go.Sort.mapBlock, Go.Sort.ahead, Array.getElem?_modify]
  rw [if_neg (fun e => hne e.symm)]
def slices_SortFunc_impl_Span.f (l0 : List S70) : Option (List S70) := if l0.length < 4611686018427387904 then some (sortA l0).toList else none
set_option maxHeartbeats 2000000 in
theorem slices_SortFunc_impl_Span.clo (x y : S70) (W : World) : Calls Try.prog 103 #[.agg #[.int .i64 x.f0, .int .i64 x.f1], .agg #[.int .i64 y.f0, .int .i64 y.f1]] W fun e w' => e = .returned (.int .i64 (sortCf x y)) ∧ ∃ q os', w' = Go.Sort.grow (W.drewN q) os' := by
 have hcon := fun W' => AnyG.cmp_Compare_int Try.cmpInt x.f0 y.f0 W'
 change ∀ W', Calls Try.prog 104 _ _ _ at hcon
 unfold sortCf
 generalize Go.Lib.compareInt x.f0 y.f0 = r at hcon ⊢
 go_enter Try.func103, Try.ntmps103
 go_wp2_with (go_at_call 104; refine (hcon _).mono ?_; rintro e w' ⟨rfl, rfl⟩)
 go_ret
 exact ⟨rfl, 0, _, by rw [Go.Sort.alloc_eq_grow, Go.Sort.alloc_eq_grow, Go.Sort.grow_grow]; rfl⟩
set_option maxHeartbeats 2000000 in
theorem slices_SortFunc_impl_Span.calls (P0_ : Nat → Prop) (u9000_ : Value) (l0 : List S70) (r1 : List S70) (w0 w : World) (hB : Below w0.heap.size w0 w) (ho0 : Kd.R k70 70 w w0.heap.size P0_ u9000_ l0) (h : slices_SortFunc_impl_Span.f l0 = some r1) :
  Calls Try.prog 102 #[u9000_, .func (.func 103) #[] #[]] w fun e w' => e = .returned (.tuple #[]) ∧ Kd.R k70 70 w' w0.heap.size (fun k_ => (P0_ k_ ∨ w.heap.size ≤ k_)) u9000_ r1 ∧ Below w0.heap.size w0 w' ∧ Kept w w' (fun k_ => P0_ k_) := by
 unfold slices_SortFunc_impl_Span.f at h
 by_cases hlen : l0.length < 4611686018427387904
 case neg => rw [if_neg hlen] at h; cases h
 rw [if_pos hlen] at h
 obtain rfl := Option.some.inj h
 clear h
 obtain ⟨A, cap, rfl⟩ := Kd.R_slice ho0
 by_cases hl : l0.length = 0
 ·have hnil : l0 = [] := List.eq_nil_of_length_eq_zero hl
  subst hnil
  have hcon := AnyF.slices_SortFunc_none (P := Try.prog) (ρ := Try.sortSpan_ren) Try.sortSpan A cap (.func (.func 103) #[] #[]) w
  change Calls Try.prog 102 _ _ _ at hcon
  refine hcon.mono ?_
  rintro e w' ⟨rfl, rfl⟩
  have he : (sortA []).toList = [] := by
   have h0 : (sortA []).size = 0 := (sortA_ok []).1.1
   exact List.eq_nil_of_length_eq_zero (by rw [Array.length_toList]; exact h0)
  rw [he]
  exact ⟨rfl, Kd.R_mono ho0 (fun k hk => .inl hk), hB, Kept.refl _ _⟩
 ·obtain ⟨g, cap', hv, _⟩ := Kd.R_form ho0 (by omega)
  injection hv with hA _ hc
  subst hA hc
  have hs : (sortA l0).size = l0.length := by have := (sortA_ok l0).1.1; simpa using this
  obtain ⟨hH, hlt, hbg, hok, _, _⟩ := sorted_row (m := 0) (d := sortA l0) (os := #[]) ho0 (by omega) hs
  have eg : ∀ args w, (callFunc 103 args).run Try.prog w = .ok (.enter 103 args) w := enters_of Try.func103 (by kernel_rfl) rfl
  have hcon := AnyQ.slices_SortFunc_eq (P := Try.prog) (ρ := Try.sortSpan_ren) Try.sortSpan 2 Try.isAgg70 Try.sizeOf70 sortEnc (fun _ => rfl) (fun x v hv => by simp [sortEnc] at hv; rcases hv with rfl | rfl <;> rfl) sortCf sort_swo 103 #[] g 0 cap l0.toArray w eg (fun _ _ _ _ x y => slices_SortFunc_impl_Span.clo x y _) hH hlt (by simpa using hlen)
  change Calls Try.prog 102 _ _ _ at hcon
  rw [show l0.toArray.size = l0.length from by simp] at hcon
  refine hcon.mono ?_
  rintro e w' ⟨rfl, n, os, rfl⟩
  have e : Go.Sort.pdq (Go.Proofs.ltOf sortCf) l0.toArray 0 l0.length (Go.Lib.bitLen l0.length) true true = sortA l0 := by unfold sortA; simp
  rw [e]
  obtain ⟨_, _, _, _, hR, hG⟩ := sorted_row (m := n) (d := sortA l0) (os := os) ho0 (by omega) hs
  refine ⟨rfl, Kd.R_mono hR (fun k hk => .inl hk), ?_, ?_⟩
  ·exact ⟨hG.os.trans hB.os, hG.tape.trans hB.tape, hG.output.trans hB.output, Nat.le_trans hB.size hG.size, fun i hi => (hG.block i (Nat.lt_of_lt_of_le hi hB.size) (fun e => by injection e with e; omega)).trans (hB.block i hi)⟩
  ·exact ⟨hG.size, fun i hi hn => hG.block i hi (fun e => by injection e with e; subst e; exact hn hok)⟩

end Go.Proofs.Ytdciagkholijlaa.PFnExactEntryAdd
