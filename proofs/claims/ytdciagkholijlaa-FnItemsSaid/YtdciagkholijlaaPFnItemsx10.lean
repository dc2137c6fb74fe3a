-- Written by this session's changed copy of the kit's printer (wip/patch_print.py): not the kit's own print.
import Derived.Test.YtdciagkholijlaaPFnItemsx0
import Derived.Test.YtdciagkholijlaaPFnItemsx2
import Derived.Test.YtdciagkholijlaaPFnItemsx3
import Derived.Test.YtdciagkholijlaaPFnItemsx7
import Derived.Test.YtdciagkholijlaaPFnItemsx9
namespace Go.Proofs.Ytdciagkholijlaa.PFnItems
open Go.RowKit Go.Proofs.YtdciagkholijlaaW.PrintWords Go.Proofs.YtdciagkholijlaaW.PrintLast Go.Proofs.YtdciagkholijlaaW.PrintMore
attribute [local go_sem] max2_int min2_int max_two min_two max_three min_three max_four min_four   -- for this text's walks alone
set_option linter.unusedVariables false
set_option linter.unusedSimpArgs false
theorem Z10x0 {p : Prop} (h : p := by repeat (first | (with_reducible first | exact HB.out | apply below_alloc | apply pw_below_drewN | apply below_drew1 | refine below_set ?_ GE360.out | refine below_set ?_ GE361.out) | exact HB.out)) : p := h
theorem Z10x1 {p : Prop} (h : p := by (with_reducible repeat (first | refine blk_drewN ?_ _ | refine blk_drew ?_ | refine blk_alloc ?_ _)); refine blk_put (cs := #[.int .i64 0, .int .i64 0, .slice none 0 0, .int .i64 0, .int .i64 0, .int .i64 0, .int .i64 0, .slice none 0 0, .slice none 0 0, .slice none 0 0]) ?_ 9 _ rfl; (with_reducible repeat (first | refine blk_drewN ?_ _ | refine blk_drew ?_ | refine blk_alloc ?_ _)); refine blk_put (cs := #[.int .i64 0, .int .i64 0, .slice none 0 0, .int .i64 0, .int .i64 0, .int .i64 0, .int .i64 0, .slice none 0 0, .slice none 0 0, .slice none 0 0]) ?_ 8 _ rfl; (with_reducible repeat (first | refine blk_drewN ?_ _ | refine blk_drew ?_ | refine blk_alloc ?_ _)); refine blk_put (cs := #[.int .i64 0, .int .i64 0, .slice none 0 0, .int .i64 0, .int .i64 0, .int .i64 0, .int .i64 0, .slice none 0 0, .slice none 0 0, .slice none 0 0]) ?_ 7 _ rfl; (with_reducible repeat (first | refine blk_drewN ?_ _ | refine blk_drew ?_ | refine blk_alloc ?_ _)); refine blk_put (cs := #[.int .i64 0, .int .i64 0, .slice none 0 0, .int .i64 0, .int .i64 0, .int .i64 0, .int .i64 0, .slice none 0 0, .slice none 0 0, .slice none 0 0]) ?_ 6 _ rfl; (with_reducible repeat (first | refine blk_drewN ?_ _ | refine blk_drew ?_ | refine blk_alloc ?_ _)); refine blk_put (cs := #[.int .i64 0, .int .i64 0, .slice none 0 0, .int .i64 0, .int .i64 0, .int .i64 0, .int .i64 0, .slice none 0 0, .slice none 0 0, .slice none 0 0]) ?_ 5 _ rfl; (with_reducible repeat (first | refine blk_drewN ?_ _ | refine blk_drew ?_ | refine blk_alloc ?_ _)); refine blk_put (cs := #[.int .i64 0, .int .i64 0, .slice none 0 0, .int .i64 0, .int .i64 0, .int .i64 0, .int .i64 0, .slice none 0 0, .slice none 0 0, .slice none 0 0]) ?_ 4 _ rfl; (with_reducible repeat (first | refine blk_drewN ?_ _ | refine blk_drew ?_ | refine blk_alloc ?_ _)); refine blk_put (cs := #[.int .i64 0, .int .i64 0, .slice none 0 0, .int .i64 0, .int .i64 0, .int .i64 0, .int .i64 0, .slice none 0 0, .slice none 0 0, .slice none 0 0]) ?_ 3 _ rfl; (with_reducible repeat (first | refine blk_drewN ?_ _ | refine blk_drew ?_ | refine blk_alloc ?_ _)); refine blk_put (cs := #[.int .i64 0, .int .i64 0, .slice none 0 0, .int .i64 0, .int .i64 0, .int .i64 0, .int .i64 0, .slice none 0 0, .slice none 0 0, .slice none 0 0]) ?_ 2 _ rfl; (with_reducible repeat (first | refine blk_drewN ?_ _ | refine blk_drew ?_ | refine blk_alloc ?_ _)); refine blk_put (cs := #[.int .i64 0, .int .i64 0, .slice none 0 0, .int .i64 0, .int .i64 0, .int .i64 0, .int .i64 0, .slice none 0 0, .slice none 0 0, .slice none 0 0]) ?_ 1 _ rfl; (with_reducible repeat (first | refine blk_drewN ?_ _ | refine blk_drew ?_ | refine blk_alloc ?_ _)); refine blk_put (cs := #[.int .i64 0, .int .i64 0, .slice none 0 0, .int .i64 0, .int .i64 0, .int .i64 0, .int .i64 0, .slice none 0 0, .slice none 0 0, .slice none 0 0]) ?_ 0 _ rfl; (with_reducible repeat (first | refine blk_drewN ?_ _ | refine blk_drew ?_ | refine blk_alloc ?_ _)); exact BK361.out) : p := h
theorem Z10x2 {p : Prop} (h : p := by repeat (first | (with_reducible first | exact HB.out | apply below_alloc | apply pw_below_drewN | apply below_drew1) | exact HB.out)) : p := h
theorem Z10x3 {p : Prop} (h : p := by (with_reducible repeat (first | refine blk_drewN ?_ _ | refine blk_drew ?_ | refine blk_alloc ?_ _)); exact BK360.out) : p := h
theorem Z10x4 {p : Prop} (h : p := by (try simp only [List.map_toArray, List.map_cons, List.map_nil]); first | done | rfl | (simp only [List.length_drop, List.length_take]; rfl)) : p := h
theorem Z10x5 {p : Prop} (h : p := by repeat (first | (with_reducible first | exact HB.out | apply below_alloc | apply pw_below_drewN | apply below_drew1 | refine below_set ?_ GE360.out) | exact HB.out)) : p := h
theorem Z10x6 {p : Prop} (h : p := by (with_reducible repeat (first | refine blk_drewN ?_ _ | refine blk_drew ?_ | refine blk_alloc ?_ _)); exact BK361.out) : p := h
theorem Z10x7 {p : Prop} (h : p := by repeat (first | (with_reducible first | exact HB.out | apply below_alloc | apply pw_below_drewN | apply below_drew1 | refine below_set ?_ GE385.out) | exact HB.out)) : p := h
theorem Z10x8 {p : Prop} (h : p := by first | exact Kd.R_nil _ _ _ _ _ | exact Kd.N_nil _ _ _ _ _ | exact Kd.V_nil _ _ _ _ _ | exact Kd.Q_nil _ _ _ _ _ | exact Kd.S_nil _ _ _ _ _) : p := h
theorem Z10x9 {p : Prop} (h : p := by rw [hg]; exact Nat.ne_of_lt (blk_lt (g := gb360) (o := .cells #[.int .i64 a1_0, .int .i64 a1_1, .int .i64 a1_2, .int .i64 a1_3, .int .i64 a1_4, .int .i64 a1_5, .int .i64 a1_6, .int .i64 a1_7, .slice A1_8 l1_8.length c1_8, .slice A1_9 l1_9.length c1_9, .slice A1_10 l1_10.length c1_10] 29 (0, 0)) Z10x3)) : p := h
theorem Z10x10 {p : Prop} (h : p := by rw [hg]; exact Nat.ne_of_gt (blk_lt (g := gb360) (o := .cells #[.int .i64 a1_0, .int .i64 a1_1, .int .i64 a1_2, .int .i64 a1_3, .int .i64 a1_4, .int .i64 a1_5, .int .i64 a1_6, .int .i64 a1_7, .slice A1_8 l1_8.length c1_8, .slice A1_9 l1_9.length c1_9, .slice A1_10 l1_10.length c1_10] 29 (0, 0)) Z10x3)) : p := h
theorem Z10x11 {p : Prop} (h : p := by first | rfl | (simp [errW_none, errW_some] <;> rfl) | (simp [*, errW_none, errW_some] <;> rfl)) : p := h
theorem Z10x12 {p : Prop} (h : p := by repeat (first | exact (Kd.C_below HR1_10.out HB.out) | (with_reducible refine Kd.C_alloc ?_ _) | (with_reducible refine Kd.C_drewN ?_ _) | (with_reducible refine Kd.C_drew ?_))) : p := h
theorem Z10x13 {p : Prop} (h : p := by repeat (first | exact (Kd.C_below HR1_8.out HB.out) | (with_reducible refine Kd.C_alloc ?_ _) | (with_reducible refine Kd.C_drewN ?_ _) | (with_reducible refine Kd.C_drew ?_))) : p := h
theorem Z10x14 {p : Prop} (h : p := by repeat (first | exact (Kd.C_below HR1_9.out HB.out) | (with_reducible refine Kd.C_alloc ?_ _) | (with_reducible refine Kd.C_drewN ?_ _) | (with_reducible refine Kd.C_drew ?_))) : p := h
theorem Z10x15 {p : Prop} (h : p := by rw [hg]; exact (below_size Z10x2)) : p := h
theorem Z10x16 {p : Prop} (h : p := by repeat (first | exact Drawn0.refl _ | apply Drawn0.step)) : p := h

def impl_EntryOf.f (k : Nat) (a0 : Int) (a1_0 : Int) (a1_1 : Int) (a1_2 : Int) (a1_3 : Int) (a1_4 : Int) (a1_5 : Int) (a1_6 : Int) (a1_7 : Int) (l1_8 : List Int) (l1_9 : List Int) (l1_10 : List (List Int)) : Option (Int × Int × (List (S70)) × Int × Int × Int × Int × List Int × List Int × (List (List Int)) × Bool) := (impl_IdOf.f a0 a1_0).bind fun t362 => ((impl_ItemOk.f k a1_0 a1_1 a1_2 a1_3 a1_4 a1_5 a1_6 a1_7 l1_8 l1_9 l1_10).bind fun t363 => (if t363 = true then (if t362 < 0 then (some (0, 0, ([] : List (S70)), 0, 0, 0, 0, ([] : List Int), ([] : List Int), ([] : List (List Int)), false)) else ((impl_copySketch.f k a1_4 a1_5 a1_6 a1_7 l1_8 l1_9 l1_10).bind fun bt367 => (some (a1_2, a1_3, (([(⟨t362, t362⟩ : S70)] : List (S70))), bt367.1, bt367.2.1, bt367.2.2.1, bt367.2.2.2.1, bt367.2.2.2.2.1, bt367.2.2.2.2.2.1, bt367.2.2.2.2.2.2, true)))) else (some (0, 0, ([] : List (S70)), 0, 0, 0, 0, ([] : List Int), ([] : List Int), ([] : List (List Int)), false))))
theorem impl_EntryOf.mono : ∀ a0 a1 a2 a3 a4 a5 a6 a7 a8 a9 a10 a11 k, LeO (impl_EntryOf.f k a0 a1 a2 a3 a4 a5 a6 a7 a8 a9 a10 a11) (impl_EntryOf.f (k + 1) a0 a1 a2 a3 a4 a5 a6 a7 a8 a9 a10 a11) := by
 intro a0 a1 a2 a3 a4 a5 a6 a7 a8 a9 a10 a11 k
 unfold impl_EntryOf.f
 repeat' first
   | (with_reducible exact impl_ItemOk.mono _ _ _ _ _ _ _ _ _ _ _ _)
   | (with_reducible exact impl_copySketch.mono _ _ _ _ _ _ _ _)
   | (with_reducible exact LeO.refl _)
   | (with_reducible exact LeO.none _)
   | (with_reducible refine LeO.ite ?_ ?_)
   | (with_reducible refine LeO.bind ?_ (fun _ => ?_))
   | exact impl_ItemOk.mono _ _ _ _ _ _ _ _ _ _ _ _
   | exact impl_copySketch.mono _ _ _ _ _ _ _ _
   | exact LeO.none _
   | refine LeO.ite ?_ ?_
   | refine LeO.bind ?_ (fun _ => ?_)
def impl_EntryOf.T4 : Bool × List (List Nat × List Nat) := (true, [([], []), ([0], [0]), ([], []), ([2], [2]), ([], []), ([], []), ([4, 5], [4, 5]), ([6], [6]), ([], []), ([8], [8]), ([9], [9]), ([1, 3, 7, 10], [1, 3, 7, 10]), ([11, 10, 0, 1, 2, 3, 4, 5, 6, 7, 8, 9, 10, 11], [11]), ([12, 0, 1, 2, 3, 4, 5, 6, 7, 8, 9, 10, 11, 12], [])])
def impl_EntryOf.B4 : List Nat := [0, 1, 0, 4, 0, 0, 48, 112, 0, 256, 768, 2047, 4095, 8191]
theorem impl_EntryOf.tab4 : rtab .any (opsOf Try.f9 4) = impl_EntryOf.T4 := by kernel_rfl
theorem impl_EntryOf.bits4 : waitsOk impl_EntryOf.T4.2 impl_EntryOf.B4 = true := by kernel_rfl
set_option maxHeartbeats 8000000 in
set_option maxRecDepth 100000 in
theorem impl_EntryOf.calls (k : Nat) (a0 : Int) (a1_0 : Int) (a1_1 : Int) (a1_2 : Int) (a1_3 : Int) (a1_4 : Int) (a1_5 : Int) (a1_6 : Int) (a1_7 : Int) (A1_8 : Option Addr) (c1_8 : Nat) (l1_8 : List Int) (A1_9 : Option Addr) (c1_9 : Nat) (l1_9 : List Int) (A1_10 : Option Addr) (c1_10 : Nat) (l1_10 : List (List Int)) (r1 : Int) (r2 : Int) (r3 : List (S70)) (r4 : Int) (r5 : Int) (r6 : Int) (r7 : Int) (r8 : List Int) (r9 : List Int) (r10 : List (List Int)) (r11 : Bool) (w : World) (hr1_8 : Kd.C (Kd.int .i64) w A1_8 l1_8.length l1_8) (hc1_8 : l1_8.length ≤ c1_8) (hr1_9 : Kd.C (Kd.int .i64) w A1_9 l1_9.length l1_9) (hc1_9 : l1_9.length ≤ c1_9) (hr1_10 : Kd.C (Kd.slice 3 (Kd.int .i64)) w A1_10 l1_10.length l1_10) (hc1_10 : l1_10.length ≤ c1_10) (h : impl_EntryOf.f k a0 a1_0 a1_1 a1_2 a1_3 a1_4 a1_5 a1_6 a1_7 l1_8 l1_9 l1_10 = some (r1, r2, r3, r4, r5, r6, r7, r8, r9, r10, r11)) :
  Calls Try.prog 9 #[.int .i64 a0, .agg #[.int .i64 a1_0, .int .i64 a1_1, .int .i64 a1_2, .int .i64 a1_3, .int .i64 a1_4, .int .i64 a1_5, .int .i64 a1_6, .int .i64 a1_7, .slice A1_8 l1_8.length c1_8, .slice A1_9 l1_9.length c1_9, .slice A1_10 l1_10.length c1_10]] w fun e w' => ∃ v2_ v7_ v8_ v9_ : Value, e = .returned (.tuple #[.agg #[.int .i64 r1, .int .i64 r2, v2_, .int .i64 r4, .int .i64 r5, .int .i64 r6, .int .i64 r7, v7_, v8_, v9_], .bool r11]) ∧ Kd.R k70 70 w' w.heap.size (fun _ => True) v2_ r3 ∧ Kd.R (Kd.int .i64) 3 w' w.heap.size (fun k_ => some k_ ≠ (v8_ : Value).ownBlock) v7_ r8 ∧ Kd.R (Kd.int .i64) 3 w' w.heap.size (fun k_ => some k_ ≠ (v7_ : Value).ownBlock) v8_ r9 ∧ Kd.S (Kd.slice 3 (Kd.int .i64)) 24 w' w.heap.size (fun k_ => some k_ ≠ (v7_ : Value).ownBlock ∧ some k_ ≠ (v8_ : Value).ownBlock) v9_ r10 ∧ Below w.heap.size w w' := by
 have hu29 := Try.underlying29
 have hu34 := Try.underlying34
 have hu70 := Try.underlying70
 have hu27 := Try.underlying27
 have HR1_8 := Aside0.mk hr1_8
 have HC1_8 := Aside0.mk hc1_8
 clear hr1_8 hc1_8
 have HR1_9 := Aside0.mk hr1_9
 have HC1_9 := Aside0.mk hc1_9
 clear hr1_9 hc1_9
 have HR1_10 := Aside0.mk hr1_10
 have HC1_10 := Aside0.mk hc1_10
 clear hr1_10 hc1_10
 have HB := Aside0.mk (Below.refl w.heap.size w)
 have H : ((impl_IdOf.f a0 a1_0).bind fun t362 => ((impl_ItemOk.f k a1_0 a1_1 a1_2 a1_3 a1_4 a1_5 a1_6 a1_7 l1_8 l1_9 l1_10).bind fun t363 => (if t363 = true then (if t362 < 0 then (some (0, 0, ([] : List (S70)), 0, 0, 0, 0, ([] : List Int), ([] : List Int), ([] : List (List Int)), false)) else ((impl_copySketch.f k a1_4 a1_5 a1_6 a1_7 l1_8 l1_9 l1_10).bind fun bt367 => (some (a1_2, a1_3, (([(⟨t362, t362⟩ : S70)] : List (S70))), bt367.1, bt367.2.1, bt367.2.2.1, bt367.2.2.2.1, bt367.2.2.2.2.1, bt367.2.2.2.2.2.1, bt367.2.2.2.2.2.2, true)))) else (some (0, 0, ([] : List (S70)), 0, 0, 0, 0, ([] : List Int), ([] : List Int), ([] : List (List Int)), false))))) = some (r1, r2, r3, r4, r5, r6, r7, r8, r9, r10, r11) := h
 clear h
 replace H := Option.bind_eq_some_iff.mp H
 obtain ⟨t362, A30, H⟩ := H
 replace H : ((impl_ItemOk.f k a1_0 a1_1 a1_2 a1_3 a1_4 a1_5 a1_6 a1_7 l1_8 l1_9 l1_10).bind fun t363 => (if t363 = true then (if t362 < 0 then (some (0, 0, ([] : List (S70)), 0, 0, 0, 0, ([] : List Int), ([] : List Int), ([] : List (List Int)), false)) else ((impl_copySketch.f k a1_4 a1_5 a1_6 a1_7 l1_8 l1_9 l1_10).bind fun bt367 => (some (a1_2, a1_3, (([(⟨t362, t362⟩ : S70)] : List (S70))), bt367.1, bt367.2.1, bt367.2.2.1, bt367.2.2.2.1, bt367.2.2.2.2.1, bt367.2.2.2.2.2.1, bt367.2.2.2.2.2.2, true)))) else (some (0, 0, ([] : List (S70)), 0, 0, 0, 0, ([] : List Int), ([] : List Int), ([] : List (List Int)), false)))) = some (r1, r2, r3, r4, r5, r6, r7, r8, r9, r10, r11) := H
 have A3 := Aside0.mk A30
 clear A30
 replace H := Option.bind_eq_some_iff.mp H
 obtain ⟨t363, A40, H⟩ := H
 replace H : (if t363 = true then (if t362 < 0 then (some (0, 0, ([] : List (S70)), 0, 0, 0, 0, ([] : List Int), ([] : List Int), ([] : List (List Int)), false)) else ((impl_copySketch.f k a1_4 a1_5 a1_6 a1_7 l1_8 l1_9 l1_10).bind fun bt367 => (some (a1_2, a1_3, (([(⟨t362, t362⟩ : S70)] : List (S70))), bt367.1, bt367.2.1, bt367.2.2.1, bt367.2.2.2.1, bt367.2.2.2.2.1, bt367.2.2.2.2.2.1, bt367.2.2.2.2.2.2, true)))) else (some (0, 0, ([] : List (S70)), 0, 0, 0, 0, ([] : List Int), ([] : List Int), ([] : List (List Int)), false))) = some (r1, r2, r3, r4, r5, r6, r7, r8, r9, r10, r11) := H
 have A4 := Aside0.mk A40
 clear A40
 by_cases c5 : t363 = true
 ·subst c5
  have H1 : (if t362 < 0 then (some (0, 0, ([] : List (S70)), 0, 0, 0, 0, ([] : List Int), ([] : List Int), ([] : List (List Int)), false)) else ((impl_copySketch.f k a1_4 a1_5 a1_6 a1_7 l1_8 l1_9 l1_10).bind fun bt367 => (some (a1_2, a1_3, (([(⟨t362, t362⟩ : S70)] : List (S70))), bt367.1, bt367.2.1, bt367.2.2.1, bt367.2.2.2.1, bt367.2.2.2.2.1, bt367.2.2.2.2.2.1, bt367.2.2.2.2.2.2, true)))) = some (r1, r2, r3, r4, r5, r6, r7, r8, r9, r10, r11) := by rw [if_pos rfl] at H; exact H
  clear H
  have H := H1
  clear H1
  by_cases c6 : t362 < 0
  ·rw [if_pos c6] at H
   have c6b0 : decide (t362 < 0) = true := decide_eq_true c6
   clear c6
   simp only [Option.some.injEq, Prod.mk.injEq] at H
   obtain ⟨rfl, rfl, rfl, rfl, rfl, rfl, rfl, rfl, rfl, rfl, rfl⟩ := H
   go_enter Try.func9, Try.ntmps9
   go_wp2_with (first | ((with_reducible refine gate_dst (N := 3) rfl ?_); refine box_event ?hg (N := 3) ?hd (cs := #[.int .i64 a1_0, .int .i64 a1_1, .int .i64 a1_2, .int .i64 a1_3, .int .i64 a1_4, .int .i64 a1_5, .int .i64 a1_6, .int .i64 a1_7, .slice A1_8 l1_8.length c1_8, .slice A1_9 l1_9.length c1_9, .slice A1_10 l1_10.length c1_10]) (t := 29) ?hr ?_; (case hd => rfl); (case hg => rfl); (case hr => first | (go_simp; done) | (go_simp; rfl)); intro gb360 hg w7 hbox hb; have n0_ := Aside0.mk (below_step Z10x2 hb); have n1_ := Aside0.mk (hbox); have n2_ := Aside0.mk ((Z10x15 : w.heap.size ≤ gb360)); have n3_ := Aside0.mk ((Z10x15 : w.heap.size ≤ gb360)); clear HB; have HB := n0_; have BK360 := n1_; have GW360 := n2_; have GE360 := n3_; clear n0_ n1_ n2_ n3_; clear hb hbox hg) | ((with_reducible refine gate_dst (N := 4) rfl ?_); refine box_event ?hg (N := 4) ?hd (cs := #[.int .i64 0, .int .i64 0, .slice none 0 0, .int .i64 0, .int .i64 0, .int .i64 0, .int .i64 0, .slice none 0 0, .slice none 0 0, .slice none 0 0]) (t := 34) ?hr ?_; (case hd => rfl); (case hg => rfl); (case hr => first | (go_simp; done) | (go_simp; rfl)); intro gb361 hg w8 hbox hb; have n0_ := Aside0.mk (blk_below (g := gb360) (o := .cells #[.int .i64 a1_0, .int .i64 a1_1, .int .i64 a1_2, .int .i64 a1_3, .int .i64 a1_4, .int .i64 a1_5, .int .i64 a1_6, .int .i64 a1_7, .slice A1_8 l1_8.length c1_8, .slice A1_9 l1_9.length c1_9, .slice A1_10 l1_10.length c1_10] 29 (0, 0)) Z10x3 hb); have n1_ := Aside0.mk (below_step Z10x5 hb); have n2_ := Aside0.mk (hbox); have n3_ := Aside0.mk ((by rw [hg]; exact (below_size Z10x5) : w.heap.size ≤ gb361)); have n4_ := Aside0.mk ((by rw [hg]; exact (below_size Z10x5) : w.heap.size ≤ gb361)); have n5_ := Aside0.mk ((Z10x9 : gb360 ≠ gb361)); have n6_ := Aside0.mk ((Z10x10 : gb361 ≠ gb360)); clear BK360; clear HB; have BK360 := n0_; have HB := n1_; have BK361 := n2_; have GW361 := n3_; have GE361 := n4_; have NB360_361 := n5_; have NB361_360 := n6_; clear n0_ n1_ n2_ n3_ n4_ n5_ n6_; clear hb hbox hg; have hnb9 := NB360_361.out; have hnc9 := NB361_360.out; obtain ⟨hcz10_0, hcz10_1, hcz10_2, hcz10_3, hcz10_4, hcz10_5, hcz10_6, hcz10_7, hcz10_8, hcz10_9, hcz10_10⟩ := cz11 BK360.out; obtain ⟨hfz10_0, hfz10_1, hfz10_2, hfz10_3, hfz10_4, hfz10_5, hfz10_6, hfz10_7, hfz10_8, hfz10_9, hfz10_10⟩ := fz11 BK360.out) | ((with_reducible refine gate_callee (f := 12) rfl ?_); refine goesL_ (some 10) rfl rfl Try.func12 (by kernel_rfl) rfl #[.int .i64 a0, .int .i64 a1_0] rfl Z10x4 ?_; (with_reducible refine (impl_IdOf.calls a0 a1_0 t362 _ A3.out).mono ?_); rintro e w' ⟨rfl, ⟨nd, rfl⟩⟩; refine ⟨_, rfl, ?_⟩; (try (rw [drewN_self w8]; generalize hq_ : World.drewN w8 _ = w8; have n0_ : Aside0 (w8.heap[gb360]? = some (.cells #[.int .i64 a1_0, .int .i64 a1_1, .int .i64 a1_2, .int .i64 a1_3, .int .i64 a1_4, .int .i64 a1_5, .int .i64 a1_6, .int .i64 a1_7, .slice A1_8 l1_8.length c1_8, .slice A1_9 l1_9.length c1_9, .slice A1_10 l1_10.length c1_10] 29 (0, 0))) := ⟨by rw [← hq_]; exact Z10x3⟩; have n1_ : Aside0 (w8.heap[gb361]? = some (.cells #[.int .i64 0, .int .i64 0, .slice none 0 0, .int .i64 0, .int .i64 0, .int .i64 0, .int .i64 0, .slice none 0 0, .slice none 0 0, .slice none 0 0] 34 (0, 0))) := ⟨by rw [← hq_]; exact Z10x6⟩; have n2_ : Aside0 (Below w.heap.size w w8) := ⟨by rw [← hq_]; exact Z10x0⟩; clear BK360 BK361 HB hq_; have BK360 := n0_; have BK361 := n1_; have HB := n2_; clear n0_ n1_ n2_)); have hcy10_0 : w8.cell? ⟨gb360, 0, none⟩ = some (.int .i64 a1_0) := (blk_cell BK360.out 0).trans rfl; have hcy10_1 : w8.cell? ⟨gb360, 1, none⟩ = some (.int .i64 a1_1) := (blk_cell BK360.out 1).trans rfl; have hcy10_2 : w8.cell? ⟨gb360, 2, none⟩ = some (.int .i64 a1_2) := (blk_cell BK360.out 2).trans rfl; have hcy10_3 : w8.cell? ⟨gb360, 3, none⟩ = some (.int .i64 a1_3) := (blk_cell BK360.out 3).trans rfl; have hcy10_4 : w8.cell? ⟨gb360, 4, none⟩ = some (.int .i64 a1_4) := (blk_cell BK360.out 4).trans rfl; have hcy10_5 : w8.cell? ⟨gb360, 5, none⟩ = some (.int .i64 a1_5) := (blk_cell BK360.out 5).trans rfl; have hcy10_6 : w8.cell? ⟨gb360, 6, none⟩ = some (.int .i64 a1_6) := (blk_cell BK360.out 6).trans rfl; have hcy10_7 : w8.cell? ⟨gb360, 7, none⟩ = some (.int .i64 a1_7) := (blk_cell BK360.out 7).trans rfl; have hcy10_8 : w8.cell? ⟨gb360, 8, none⟩ = some (.slice A1_8 l1_8.length c1_8) := (blk_cell BK360.out 8).trans rfl; have hcy10_9 : w8.cell? ⟨gb360, 9, none⟩ = some (.slice A1_9 l1_9.length c1_9) := (blk_cell BK360.out 9).trans rfl; have hcy10_10 : w8.cell? ⟨gb360, 10, none⟩ = some (.slice A1_10 l1_10.length c1_10) := (blk_cell BK360.out 10).trans rfl) | ((with_reducible refine gate_callee (f := 15) rfl ?_); refine goesL_ (some 12) rfl rfl Try.func15 (by kernel_rfl) rfl #[.agg #[.int .i64 a1_0, .int .i64 a1_1, .int .i64 a1_2, .int .i64 a1_3, .int .i64 a1_4, .int .i64 a1_5, .int .i64 a1_6, .int .i64 a1_7, .slice A1_8 l1_8.length c1_8, .slice A1_9 l1_9.length c1_9, .slice A1_10 l1_10.length c1_10]] rfl Z10x4 ?_; (with_reducible refine (impl_ItemOk.calls k a1_0 a1_1 a1_2 a1_3 a1_4 a1_5 a1_6 a1_7 _ _ l1_8 _ _ l1_9 _ _ l1_10 true _ ?side1 ?side2 ?side3 ?side4 ?side5 ?side6 A4.out).mono ?_); (case side1 => exact Z10x13); (case side2 => exact HC1_8.out); (case side3 => exact Z10x14); (case side4 => exact HC1_9.out); (case side5 => exact Z10x12); (case side6 => exact HC1_10.out); rintro e w11 ⟨rfl, hb⟩; refine ⟨_, rfl, ?_⟩; have n0_ := Aside0.mk (blk_below (g := gb360) (o := .cells #[.int .i64 a1_0, .int .i64 a1_1, .int .i64 a1_2, .int .i64 a1_3, .int .i64 a1_4, .int .i64 a1_5, .int .i64 a1_6, .int .i64 a1_7, .slice A1_8 l1_8.length c1_8, .slice A1_9 l1_9.length c1_9, .slice A1_10 l1_10.length c1_10] 29 (0, 0)) Z10x3 hb); have n1_ := Aside0.mk (blk_below (g := gb361) (o := .cells #[.int .i64 0, .int .i64 0, .slice none 0 0, .int .i64 0, .int .i64 0, .int .i64 0, .int .i64 0, .slice none 0 0, .slice none 0 0, .slice none 0 0] 34 (0, 0)) Z10x6 hb); have n2_ := Aside0.mk (below_step Z10x0 hb); clear BK360; clear BK361; clear HB; have BK360 := n0_; have BK361 := n1_; have HB := n2_; clear n0_ n1_ n2_; (try clear hb); (try clear hb2); (try clear hk); (try clear hi); obtain ⟨hcz12_0, hcz12_1, hcz12_2, hcz12_3, hcz12_4, hcz12_5, hcz12_6, hcz12_7, hcz12_8, hcz12_9⟩ := cz10 BK361.out; obtain ⟨hfz12_0, hfz12_1, hfz12_2, hfz12_3, hfz12_4, hfz12_5, hfz12_6, hfz12_7, hfz12_8, hfz12_9⟩ := fz10 BK361.out))
   refine bodyPost_ret (results_ct rfl _ _ gb361 34 #[.int .i64 0, .int .i64 0, .slice none 0 0, .int .i64 0, .int .i64 0, .int .i64 0, .int .i64 0, .slice none 0 0, .slice none 0 0, .slice none 0 0] (0, 0) _ rfl Z10x1 Try.underlying34 rfl (by kernel_rfl)) rfl ?_
   exact ⟨_, _, _, _, Z10x11, Z10x8, Z10x8, Z10x8, by first | exact Kd.S_nil _ _ _ _ _ | exact Kd.N_nil _ _ _ _ _ | exact Kd.V_nil _ _ _ _ _ | exact Kd.Q_nil _ _ _ _ _ | exact Kd.R_nil _ _ _ _ _, Z10x0⟩
  ·rw [if_neg c6] at H
   have c6b0 : decide (t362 < 0) = false := decide_eq_false c6
   clear c6
   obtain ⟨y364, hy364⟩ : ∃ y_ : List (S70), y_ = (([(⟨t362, t362⟩ : S70)] : List (S70))) := ⟨_, rfl⟩
   replace H : ((impl_copySketch.f k a1_4 a1_5 a1_6 a1_7 l1_8 l1_9 l1_10).bind fun bt367 => (some (a1_2, a1_3, y364, bt367.1, bt367.2.1, bt367.2.2.1, bt367.2.2.2.1, bt367.2.2.2.2.1, bt367.2.2.2.2.2.1, bt367.2.2.2.2.2.2, true))) = some (r1, r2, r3, r4, r5, r6, r7, r8, r9, r10, r11) := by first | (rw [hy364]; with_reducible exact H) | (have H2_ := (Option.bind_some _ _).symm.trans H; rw [hy364]; with_reducible exact H2_) | (have H2_ := (Option.bind_some _ _).symm.trans H; with_reducible exact H2_) | with_reducible exact H | (rw [hy364]; exact H) | exact H
   have Ny364 := Aside0.mk hy364
   clear hy364
   replace H := Option.bind_eq_some_iff.mp H
   obtain ⟨⟨t367, t368, t369, t370, t371, t374, t377⟩, A130, H⟩ := H
   replace H : (some (a1_2, a1_3, y364, t367, t368, t369, t370, t371, t374, t377, true)) = some (r1, r2, r3, r4, r5, r6, r7, r8, r9, r10, r11) := H
   have A13 := Aside0.mk A130
   clear A130
   simp only [Option.some.injEq, Prod.mk.injEq] at H
   obtain ⟨rfl, rfl, rfl, rfl, rfl, rfl, rfl, rfl, rfl, rfl, rfl⟩ := H
   go_enter Try.func9, Try.ntmps9
   try go_wp2_with (first | ((with_reducible refine gate_dst (N := 3) rfl ?_); refine box_event ?hg (N := 3) ?hd (cs := #[.int .i64 a1_0, .int .i64 a1_1, .int .i64 a1_2, .int .i64 a1_3, .int .i64 a1_4, .int .i64 a1_5, .int .i64 a1_6, .int .i64 a1_7, .slice A1_8 l1_8.length c1_8, .slice A1_9 l1_9.length c1_9, .slice A1_10 l1_10.length c1_10]) (t := 29) ?hr ?_; (case hd => rfl); (case hg => rfl); (case hr => first | (go_simp; done) | (go_simp; rfl)); intro gb360 hg w14 hbox hb; have n0_ := Aside0.mk (below_step Z10x2 hb); have n1_ := Aside0.mk (hbox); have n2_ := Aside0.mk ((Z10x15 : w.heap.size ≤ gb360)); have n3_ := Aside0.mk ((Z10x15 : w.heap.size ≤ gb360)); clear HB; have HB := n0_; have BK360 := n1_; have GW360 := n2_; have GE360 := n3_; clear n0_ n1_ n2_ n3_; clear hb hbox hg) | ((with_reducible refine gate_dst (N := 4) rfl ?_); refine box_event ?hg (N := 4) ?hd (cs := #[.int .i64 0, .int .i64 0, .slice none 0 0, .int .i64 0, .int .i64 0, .int .i64 0, .int .i64 0, .slice none 0 0, .slice none 0 0, .slice none 0 0]) (t := 34) ?hr ?_; (case hd => rfl); (case hg => rfl); (case hr => first | (go_simp; done) | (go_simp; rfl)); intro gb361 hg w15 hbox hb; have n0_ := Aside0.mk (blk_below (g := gb360) (o := .cells #[.int .i64 a1_0, .int .i64 a1_1, .int .i64 a1_2, .int .i64 a1_3, .int .i64 a1_4, .int .i64 a1_5, .int .i64 a1_6, .int .i64 a1_7, .slice A1_8 l1_8.length c1_8, .slice A1_9 l1_9.length c1_9, .slice A1_10 l1_10.length c1_10] 29 (0, 0)) Z10x3 hb); have n1_ := Aside0.mk (below_step Z10x5 hb); have n2_ := Aside0.mk (hbox); have n3_ := Aside0.mk ((by rw [hg]; exact (below_size Z10x5) : w.heap.size ≤ gb361)); have n4_ := Aside0.mk ((by rw [hg]; exact (below_size Z10x5) : w.heap.size ≤ gb361)); have n5_ := Aside0.mk ((Z10x9 : gb360 ≠ gb361)); have n6_ := Aside0.mk ((Z10x10 : gb361 ≠ gb360)); clear BK360; clear HB; have BK360 := n0_; have HB := n1_; have BK361 := n2_; have GW361 := n3_; have GE361 := n4_; have NB360_361 := n5_; have NB361_360 := n6_; clear n0_ n1_ n2_ n3_ n4_ n5_ n6_; clear hb hbox hg; have hnb16 := NB360_361.out; have hnc16 := NB361_360.out; obtain ⟨hcz17_0, hcz17_1, hcz17_2, hcz17_3, hcz17_4, hcz17_5, hcz17_6, hcz17_7, hcz17_8, hcz17_9, hcz17_10⟩ := cz11 BK360.out; obtain ⟨hfz17_0, hfz17_1, hfz17_2, hfz17_3, hfz17_4, hfz17_5, hfz17_6, hfz17_7, hfz17_8, hfz17_9, hfz17_10⟩ := fz11 BK360.out) | ((with_reducible refine gate_callee (f := 12) rfl ?_); refine goesL_ (some 10) rfl rfl Try.func12 (by kernel_rfl) rfl #[.int .i64 a0, .int .i64 a1_0] rfl Z10x4 ?_; (with_reducible refine (impl_IdOf.calls a0 a1_0 t362 _ A3.out).mono ?_); rintro e w' ⟨rfl, ⟨nd, rfl⟩⟩; refine ⟨_, rfl, ?_⟩; (try (rw [drewN_self w15]; generalize hq_ : World.drewN w15 _ = w15; have n0_ : Aside0 (w15.heap[gb360]? = some (.cells #[.int .i64 a1_0, .int .i64 a1_1, .int .i64 a1_2, .int .i64 a1_3, .int .i64 a1_4, .int .i64 a1_5, .int .i64 a1_6, .int .i64 a1_7, .slice A1_8 l1_8.length c1_8, .slice A1_9 l1_9.length c1_9, .slice A1_10 l1_10.length c1_10] 29 (0, 0))) := ⟨by rw [← hq_]; exact Z10x3⟩; have n1_ : Aside0 (w15.heap[gb361]? = some (.cells #[.int .i64 0, .int .i64 0, .slice none 0 0, .int .i64 0, .int .i64 0, .int .i64 0, .int .i64 0, .slice none 0 0, .slice none 0 0, .slice none 0 0] 34 (0, 0))) := ⟨by rw [← hq_]; exact Z10x6⟩; have n2_ : Aside0 (Below w.heap.size w w15) := ⟨by rw [← hq_]; exact Z10x0⟩; clear BK360 BK361 HB hq_; have BK360 := n0_; have BK361 := n1_; have HB := n2_; clear n0_ n1_ n2_)); have hcy17_0 : w15.cell? ⟨gb360, 0, none⟩ = some (.int .i64 a1_0) := (blk_cell BK360.out 0).trans rfl; have hcy17_1 : w15.cell? ⟨gb360, 1, none⟩ = some (.int .i64 a1_1) := (blk_cell BK360.out 1).trans rfl; have hcy17_2 : w15.cell? ⟨gb360, 2, none⟩ = some (.int .i64 a1_2) := (blk_cell BK360.out 2).trans rfl; have hcy17_3 : w15.cell? ⟨gb360, 3, none⟩ = some (.int .i64 a1_3) := (blk_cell BK360.out 3).trans rfl; have hcy17_4 : w15.cell? ⟨gb360, 4, none⟩ = some (.int .i64 a1_4) := (blk_cell BK360.out 4).trans rfl; have hcy17_5 : w15.cell? ⟨gb360, 5, none⟩ = some (.int .i64 a1_5) := (blk_cell BK360.out 5).trans rfl; have hcy17_6 : w15.cell? ⟨gb360, 6, none⟩ = some (.int .i64 a1_6) := (blk_cell BK360.out 6).trans rfl; have hcy17_7 : w15.cell? ⟨gb360, 7, none⟩ = some (.int .i64 a1_7) := (blk_cell BK360.out 7).trans rfl; have hcy17_8 : w15.cell? ⟨gb360, 8, none⟩ = some (.slice A1_8 l1_8.length c1_8) := (blk_cell BK360.out 8).trans rfl; have hcy17_9 : w15.cell? ⟨gb360, 9, none⟩ = some (.slice A1_9 l1_9.length c1_9) := (blk_cell BK360.out 9).trans rfl; have hcy17_10 : w15.cell? ⟨gb360, 10, none⟩ = some (.slice A1_10 l1_10.length c1_10) := (blk_cell BK360.out 10).trans rfl) | ((with_reducible refine gate_callee (f := 15) rfl ?_); refine goesL_ (some 12) rfl rfl Try.func15 (by kernel_rfl) rfl #[.agg #[.int .i64 a1_0, .int .i64 a1_1, .int .i64 a1_2, .int .i64 a1_3, .int .i64 a1_4, .int .i64 a1_5, .int .i64 a1_6, .int .i64 a1_7, .slice A1_8 l1_8.length c1_8, .slice A1_9 l1_9.length c1_9, .slice A1_10 l1_10.length c1_10]] rfl Z10x4 ?_; (with_reducible refine (impl_ItemOk.calls k a1_0 a1_1 a1_2 a1_3 a1_4 a1_5 a1_6 a1_7 _ _ l1_8 _ _ l1_9 _ _ l1_10 true _ ?side1 ?side2 ?side3 ?side4 ?side5 ?side6 A4.out).mono ?_); (case side1 => exact Z10x13); (case side2 => exact HC1_8.out); (case side3 => exact Z10x14); (case side4 => exact HC1_9.out); (case side5 => exact Z10x12); (case side6 => exact HC1_10.out); rintro e w18 ⟨rfl, hb⟩; refine ⟨_, rfl, ?_⟩; have n0_ := Aside0.mk (blk_below (g := gb360) (o := .cells #[.int .i64 a1_0, .int .i64 a1_1, .int .i64 a1_2, .int .i64 a1_3, .int .i64 a1_4, .int .i64 a1_5, .int .i64 a1_6, .int .i64 a1_7, .slice A1_8 l1_8.length c1_8, .slice A1_9 l1_9.length c1_9, .slice A1_10 l1_10.length c1_10] 29 (0, 0)) Z10x3 hb); have n1_ := Aside0.mk (blk_below (g := gb361) (o := .cells #[.int .i64 0, .int .i64 0, .slice none 0 0, .int .i64 0, .int .i64 0, .int .i64 0, .int .i64 0, .slice none 0 0, .slice none 0 0, .slice none 0 0] 34 (0, 0)) Z10x6 hb); have n2_ := Aside0.mk (below_step Z10x0 hb); clear BK360; clear BK361; clear HB; have BK360 := n0_; have BK361 := n1_; have HB := n2_; clear n0_ n1_ n2_; (try clear hb); (try clear hb2); (try clear hk); (try clear hi)))
   have n0_ := Aside0.mk (blk_drew BK360.out)
   have n1_ := Aside0.mk (blk_drew BK361.out)
   have n2_ := Aside0.mk (below_drew1 HB.out)
   clear BK360
   clear BK361
   clear HB
   have BK360 := n0_
   have BK361 := n1_
   have HB := n2_
   clear n0_ n1_ n2_
   refine start_ (n := 14) (S := fun w' => True) (ds := []) #[false, false, false, false, false, false, false, false, false, false, false, false, false, false] (by kernel_rfl) rfl rfl trivial (fun hHeld => ?_); refine with_tabW impl_EntryOf.tab4 impl_EntryOf.bits4 (fun HT_ HW_ => ?_)
   generalize w18.drew = w19 at BK360 BK361 HB hHeld ⊢
   refine pure_ (i := 0) (N := some 19) (v := ?_) (a' := ?_) #[true, false, false, false, false, false, false, false, false, false, false, false, false, false] rfl rfl (any_of HT_.out (by kernel_rfl)) (fun _ _ _ h => h) (Or.inl ⟨by rfl, ?_⟩) ?_ ?_
   rotate_left
   ·intro w'
    go_simp
    with_reducible rfl
   rotate_left
   ·simp only [czP]
    rfl
   refine pure_ (i := 2) (N := some 21) (v := ?_) (a' := ?_) #[true, false, true, false, false, false, false, false, false, false, false, false, false, false] rfl rfl (any_of HT_.out (by kernel_rfl)) (fun _ _ _ h => h) (Or.inl ⟨by rfl, ?_⟩) ?_ ?_
   rotate_left
   ·intro w'
    go_simp
    with_reducible rfl
   rotate_left
   ·simp only [czP]
    rfl
   refine pure_ (i := 4) (N := some 23) (v := ?_) (a' := ?_) #[true, false, true, false, true, false, false, false, false, false, false, false, false, false] rfl rfl (any_of HT_.out (by kernel_rfl)) (fun _ _ _ h => h) (Or.inl ⟨by rfl, ?_⟩) ?_ ?_
   rotate_left
   ·intro w'
    go_simp
    with_reducible rfl
   rotate_left
   ·simp only [czP]
    rfl
   refine pure_ (i := 5) (N := some 24) (v := ?_) (a' := ?_) #[true, false, true, false, true, true, false, false, false, false, false, false, false, false] rfl rfl (any_of HT_.out (by kernel_rfl)) (fun _ _ _ h => h) (Or.inl ⟨by rfl, ?_⟩) ?_ ?_
   rotate_left
   ·intro w'
    go_simp
    with_reducible rfl
   rotate_left
   ·simp only [czP]
    rfl
   refine pure_ (i := 8) (N := some 27) (v := ?_) (a' := ?_) #[true, false, true, false, true, true, false, false, true, false, false, false, false, false] rfl rfl (any_of HT_.out (by kernel_rfl)) (fun _ _ _ h => h) (Or.inl ⟨by rfl, ?_⟩) ?_ ?_
   rotate_left
   ·intro w'
    go_simp
    with_reducible rfl
   rotate_left
   ·simp only [czP]
    rfl
   refine inv_at [1, 3, 6, 7, 9, 10, 11, 12, 13] (fun a0_ b a w' => ∃ (v365 : Value) (v372 : Value) (v375 : Value) (v378 : Value) (m10_ : Value) (m11_ : Value), a = putSel a0_ b [(1, 20, .int .i64 a1_2), (3, 22, .int .i64 a1_3), (6, 25, .agg #[.int .i64 t362, .int .i64 t362]), (7, 26, v365), (9, 28, .agg #[.int .i64 a1_4, .int .i64 a1_5, .int .i64 a1_6, .int .i64 a1_7, .slice A1_8 l1_8.length c1_8, .slice A1_9 l1_9.length c1_9, .slice A1_10 l1_10.length c1_10]), (10, 29, m10_), (11, 30, m11_), (13, 5, .bool true)] ∧ (w'.heap[gb360]? = some (.cells #[.int .i64 a1_0, .int .i64 a1_1, .int .i64 a1_2, .int .i64 a1_3, .int .i64 a1_4, .int .i64 a1_5, .int .i64 a1_6, .int .i64 a1_7, .slice A1_8 l1_8.length c1_8, .slice A1_9 l1_9.length c1_9, .slice A1_10 l1_10.length c1_10] 29 (0, 0))) ∧ (b 12 = false → w'.heap[gb361]? = some (.cells #[.int .i64 0, .int .i64 0, .slice none 0 0, .int .i64 0, .int .i64 0, .int .i64 0, .int .i64 0, .slice none 0 0, .slice none 0 0, .slice none 0 0] 34 (0, 0))) ∧ (Below w.heap.size w w') ∧ (b 7 = true → Kd.R k70 70 w' w.heap.size (fun _ => True) v365 y364) ∧ (b 10 = true → Kd.R (Kd.int .i64) 3 w' w.heap.size (fun k_ => some k_ ≠ (v375 : Value).ownBlock) v372 t371) ∧ (b 10 = true → Kd.R (Kd.int .i64) 3 w' w.heap.size (fun k_ => some k_ ≠ (v372 : Value).ownBlock) v375 t374) ∧ (b 10 = true → Kd.S (Kd.slice 3 (Kd.int .i64)) 24 w' w.heap.size (fun k_ => some k_ ≠ (v372 : Value).ownBlock ∧ some k_ ≠ (v375 : Value).ownBlock) v378 t377) ∧ (b 12 = true → w'.heap[gb361]? = some (.cells #[.int .i64 a1_2, .int .i64 a1_3, v365, .int .i64 t367, .int .i64 t368, .int .i64 t369, .int .i64 t370, v372, v375, v378] 34 (0, 0))) ∧ (b 10 = true → (m10_ : Value) = .agg #[.int .i64 t367, .int .i64 t368, .int .i64 t369, .int .i64 t370, v372, v375, v378]) ∧ (b 11 = true → (m11_ : Value) = .agg #[.int .i64 a1_2, .int .i64 a1_3, v365, .int .i64 t367, .int .i64 t368, .int .i64 t369, .int .i64 t370, v372, v375, v378])) HT_.out HW_.out (by kernel_rfl) (by kernel_rfl) ?_ ?_ ?_
   ·exact ⟨.bool false, .bool false, .bool false, .bool false, .bool false, .bool false, by simp only [putSel, Bool.false_eq_true, if_false], BK360.out, fun _ => BK361.out, HB.out, fun h_ => absurd h_ (by decide), fun h_ => absurd h_ (by decide), fun h_ => absurd h_ (by decide), fun h_ => absurd h_ (by decide), fun h_ => absurd h_ (by decide), fun h_ => absurd h_ (by decide), fun h_ => absurd h_ (by decide)⟩
   ·skip
    clear BK360 BK361 HB;refine steps_cons ?_ ?_
    ·rintro b a w' ⟨v365, v372, v375, v378, m10_, m11_, ha, Q_BK360, Q_BK361, Q_HB, Q_HO366, Q_HO373, Q_HO376, Q_HO379, Q_BK361_e12, Q_X10_, Q_X11_⟩ hb_ hon hoff
     refine ⟨_, rfl, fun K hK => ?_⟩
     have e19 : a.tmps[19]? = some (.pointer (some ⟨gb360, 2, none⟩)) := by rw [ha]; exact (putSel_off rfl).trans rfl
     replace ha := Aside0.mk ha;have BK360 := Aside0.mk Q_BK360;have BK361 := Aside0.mk (Q_BK361 (hoff 12 (by kernel_rfl)));have HB := Aside0.mk Q_HB;have hc0_ : w'.cell? ⟨gb360, 0, none⟩ = some (.int .i64 a1_0) := (blk_cell BK360.out 0).trans rfl;have hc1_ : w'.cell? ⟨gb360, 1, none⟩ = some (.int .i64 a1_1) := (blk_cell BK360.out 1).trans rfl;have hc2_ : w'.cell? ⟨gb360, 2, none⟩ = some (.int .i64 a1_2) := (blk_cell BK360.out 2).trans rfl;have hc3_ : w'.cell? ⟨gb360, 3, none⟩ = some (.int .i64 a1_3) := (blk_cell BK360.out 3).trans rfl;have hc4_ : w'.cell? ⟨gb360, 4, none⟩ = some (.int .i64 a1_4) := (blk_cell BK360.out 4).trans rfl;have hc5_ : w'.cell? ⟨gb360, 5, none⟩ = some (.int .i64 a1_5) := (blk_cell BK360.out 5).trans rfl;have hc6_ : w'.cell? ⟨gb360, 6, none⟩ = some (.int .i64 a1_6) := (blk_cell BK360.out 6).trans rfl;have hc7_ : w'.cell? ⟨gb360, 7, none⟩ = some (.int .i64 a1_7) := (blk_cell BK360.out 7).trans rfl;have hc8_ : w'.cell? ⟨gb360, 8, none⟩ = some (.slice A1_8 l1_8.length c1_8) := (blk_cell BK360.out 8).trans rfl;have hc9_ : w'.cell? ⟨gb360, 9, none⟩ = some (.slice A1_9 l1_9.length c1_9) := (blk_cell BK360.out 9).trans rfl;have hc10_ : w'.cell? ⟨gb360, 10, none⟩ = some (.slice A1_10 l1_10.length c1_10) := (blk_cell BK360.out 10).trans rfl;refine value_ (w1 := w') (v := .int .i64 a1_2) (by rfl) rfl ?_ ?_
     ·go_simp
      (try simp only [i64_w])
      try rfl
     refine hK.out _ _ ⟨v365, v372, v375, v378, m10_, m11_, (by rw [ha.out]; exact putSel_upk 0 hb_ rfl rfl rfl), Q_BK360, Q_BK361, Q_HB, Q_HO366, Q_HO373, Q_HO376, Q_HO379, fun h0_ => absurd ((hoff 12 (by kernel_rfl)).symm.trans h0_) (by decide), Q_X10_, fun h0_ => absurd ((hoff 11 (by kernel_rfl)).symm.trans h0_) (by decide)⟩
    refine steps_cons ?_ ?_
    ·rintro b a w' ⟨v365, v372, v375, v378, m10_, m11_, ha, Q_BK360, Q_BK361, Q_HB, Q_HO366, Q_HO373, Q_HO376, Q_HO379, Q_BK361_e12, Q_X10_, Q_X11_⟩ hb_ hon hoff
     refine ⟨_, rfl, fun K hK => ?_⟩
     have e21 : a.tmps[21]? = some (.pointer (some ⟨gb360, 3, none⟩)) := by rw [ha]; exact (putSel_off rfl).trans rfl
     replace ha := Aside0.mk ha;have BK360 := Aside0.mk Q_BK360;have BK361 := Aside0.mk (Q_BK361 (hoff 12 (by kernel_rfl)));have HB := Aside0.mk Q_HB;have hc0_ : w'.cell? ⟨gb360, 0, none⟩ = some (.int .i64 a1_0) := (blk_cell BK360.out 0).trans rfl;have hc1_ : w'.cell? ⟨gb360, 1, none⟩ = some (.int .i64 a1_1) := (blk_cell BK360.out 1).trans rfl;have hc2_ : w'.cell? ⟨gb360, 2, none⟩ = some (.int .i64 a1_2) := (blk_cell BK360.out 2).trans rfl;have hc3_ : w'.cell? ⟨gb360, 3, none⟩ = some (.int .i64 a1_3) := (blk_cell BK360.out 3).trans rfl;have hc4_ : w'.cell? ⟨gb360, 4, none⟩ = some (.int .i64 a1_4) := (blk_cell BK360.out 4).trans rfl;have hc5_ : w'.cell? ⟨gb360, 5, none⟩ = some (.int .i64 a1_5) := (blk_cell BK360.out 5).trans rfl;have hc6_ : w'.cell? ⟨gb360, 6, none⟩ = some (.int .i64 a1_6) := (blk_cell BK360.out 6).trans rfl;have hc7_ : w'.cell? ⟨gb360, 7, none⟩ = some (.int .i64 a1_7) := (blk_cell BK360.out 7).trans rfl;have hc8_ : w'.cell? ⟨gb360, 8, none⟩ = some (.slice A1_8 l1_8.length c1_8) := (blk_cell BK360.out 8).trans rfl;have hc9_ : w'.cell? ⟨gb360, 9, none⟩ = some (.slice A1_9 l1_9.length c1_9) := (blk_cell BK360.out 9).trans rfl;have hc10_ : w'.cell? ⟨gb360, 10, none⟩ = some (.slice A1_10 l1_10.length c1_10) := (blk_cell BK360.out 10).trans rfl;refine value_ (w1 := w') (v := .int .i64 a1_3) (by rfl) rfl ?_ ?_
     ·go_simp
      (try simp only [i64_w])
      try rfl
     refine hK.out _ _ ⟨v365, v372, v375, v378, m10_, m11_, (by rw [ha.out]; exact putSel_upk 1 hb_ rfl rfl rfl), Q_BK360, Q_BK361, Q_HB, Q_HO366, Q_HO373, Q_HO376, Q_HO379, fun h0_ => absurd ((hoff 12 (by kernel_rfl)).symm.trans h0_) (by decide), Q_X10_, fun h0_ => absurd ((hoff 11 (by kernel_rfl)).symm.trans h0_) (by decide)⟩
    refine steps_cons ?_ ?_
    ·rintro b a w' ⟨v365, v372, v375, v378, m10_, m11_, ha, Q_BK360, Q_BK361, Q_HB, Q_HO366, Q_HO373, Q_HO376, Q_HO379, Q_BK361_e12, Q_X10_, Q_X11_⟩ hb_ hon hoff
     refine ⟨_, rfl, fun K hK => ?_⟩
     have e23 : a.tmps[23]? = some (.int .i64 t362) := by rw [ha]; exact (putSel_off rfl).trans rfl
     have e24 : a.tmps[24]? = some (.int .i64 t362) := by rw [ha]; exact (putSel_off rfl).trans rfl
     replace ha := Aside0.mk ha;have BK360 := Aside0.mk Q_BK360;have BK361 := Aside0.mk (Q_BK361 (hoff 12 (by kernel_rfl)));have HB := Aside0.mk Q_HB;refine value_ (w1 := w') (v := .agg #[.int .i64 t362, .int .i64 t362]) (by rfl) rfl ?_ ?_
     ·go_simp
      (try simp only [i64_w])
      try rfl
     refine hK.out _ _ ⟨v365, v372, v375, v378, m10_, m11_, (by rw [ha.out]; exact putSel_upk 2 hb_ rfl rfl rfl), Q_BK360, Q_BK361, Q_HB, fun h0_ => absurd ((hoff 7 (by kernel_rfl)).symm.trans h0_) (by decide), Q_HO373, Q_HO376, Q_HO379, fun h0_ => absurd ((hoff 12 (by kernel_rfl)).symm.trans h0_) (by decide), Q_X10_, fun h0_ => absurd ((hoff 11 (by kernel_rfl)).symm.trans h0_) (by decide)⟩
    refine steps_cons ?_ ?_
    ·rintro b a w' ⟨v365, v372, v375, v378, m10_, m11_, ha, Q_BK360, Q_BK361, Q_HB, Q_HO366, Q_HO373, Q_HO376, Q_HO379, Q_BK361_e12, Q_X10_, Q_X11_⟩ hb_ hon hoff
     refine ⟨_, rfl, fun K hK => ?_⟩
     have e25 : a.tmps[25]? = some (.agg #[.int .i64 t362, .int .i64 t362]) := by rw [ha]; exact putSel_on (e := (6, 25, .agg #[.int .i64 t362, .int .i64 t362])) 2 rfl rfl (hon 6 (by kernel_rfl)) rfl
     replace ha := Aside0.mk ha;have BK360 := Aside0.mk Q_BK360;have BK361 := Aside0.mk (Q_BK361 (hoff 12 (by kernel_rfl)));have HB := Aside0.mk Q_HB;refine Kd.R_lit_step k70 _ 70 ?hg (N := 26) ?hd (xs := ([(⟨t362, t362⟩ : S70)] : List (S70))) (inner := [.int .i64 t362, .int .i64 t362]) (ok := fun _ => True) (okp := fun _ => True) ?hr ?hp (fun _ hk => hk) trivial (Below.refl _ _) (Nat.le_refl _) (by simp) ?_; (case hd => rfl); (case hg => rfl); (case hr => first | (go_simp; done) | (go_simp; rfl)); (case hp => exact (Reps.c2 (show Kd.M k70 _ _ _ (⟨t362, t362⟩ : S70) [.int .i64 t362, .int .i64 t362] from (k70_mkM _ _ _ (⟨t362, t362⟩ : S70) )) (Reps.none _ _)));intro v365 w20 ho21 hb hg_ hnew_;clear hg_ hnew_
     (first | rw [← Ny364.out] at ho21 | (simp only [Int.reduceToNat] at ho21; rw [← Ny364.out] at ho21))
     have n0_ := Aside0.mk (Kd.R_lower ho21 (below_size Z10x0));have n1_ := Aside0.mk (blk_below (g := gb360) (o := .cells #[.int .i64 a1_0, .int .i64 a1_1, .int .i64 a1_2, .int .i64 a1_3, .int .i64 a1_4, .int .i64 a1_5, .int .i64 a1_6, .int .i64 a1_7, .slice A1_8 l1_8.length c1_8, .slice A1_9 l1_9.length c1_9, .slice A1_10 l1_10.length c1_10] 29 (0, 0)) Z10x3 hb);have n2_ := Aside0.mk (blk_below (g := gb361) (o := .cells #[.int .i64 0, .int .i64 0, .slice none 0 0, .int .i64 0, .int .i64 0, .int .i64 0, .int .i64 0, .slice none 0 0, .slice none 0 0, .slice none 0 0] 34 (0, 0)) Z10x6 hb);have n3_ := Aside0.mk (below_step Z10x0 hb)
     have z_HO373 := fun (h0_ : b 10 = true) => (show Kd.R (Kd.int .i64) 3 w20 w.heap.size (fun k_ => some k_ ≠ (v375 : Value).ownBlock) v372 t371 from by first | exact (Kd.R_below (by (with_reducible repeat (first | apply Kd.R_alloc | apply Kd.R_drewN | apply Kd.R_drew)); exact (Q_HO373 h0_)) hb) | exact Kd.R_mono (Kd.R_below (by (with_reducible repeat (first | apply Kd.R_alloc | apply Kd.R_drewN | apply Kd.R_drew)); exact (Q_HO373 h0_)) hb) (fun _ h_ => by first | trivial | exact h_ | exact h_.1))
     have z_HO376 := fun (h0_ : b 10 = true) => (show Kd.R (Kd.int .i64) 3 w20 w.heap.size (fun k_ => some k_ ≠ (v372 : Value).ownBlock) v375 t374 from by first | exact (Kd.R_below (by (with_reducible repeat (first | apply Kd.R_alloc | apply Kd.R_drewN | apply Kd.R_drew)); exact (Q_HO376 h0_)) hb) | exact Kd.R_mono (Kd.R_below (by (with_reducible repeat (first | apply Kd.R_alloc | apply Kd.R_drewN | apply Kd.R_drew)); exact (Q_HO376 h0_)) hb) (fun _ h_ => by first | trivial | exact h_ | exact h_.1))
     have z_HO379 := fun (h0_ : b 10 = true) => (show Kd.S (Kd.slice 3 (Kd.int .i64)) 24 w20 w.heap.size (fun k_ => some k_ ≠ (v372 : Value).ownBlock ∧ some k_ ≠ (v375 : Value).ownBlock) v378 t377 from by first | exact (Kd.S_below (by (with_reducible repeat (first | apply Kd.S_alloc | apply Kd.S_drewN | apply Kd.S_drew)); exact (Q_HO379 h0_)) hb) | exact Kd.S_mono (Kd.S_below (by (with_reducible repeat (first | apply Kd.S_alloc | apply Kd.S_drewN | apply Kd.S_drew)); exact (Q_HO379 h0_)) hb) (fun _ h_ => by first | trivial | exact h_ | exact h_.1))
     clear BK360;clear BK361;clear HB;have HO366 := n0_;have BK360 := n1_;have BK361 := n2_;have HB := n3_;clear n0_ n1_ n2_ n3_;clear hb ho21;refine hK.out _ _ ⟨v365, v372, v375, v378, m10_, m11_, (by rw [ha.out]; exact putSel_upk 3 hb_ rfl rfl rfl), Z10x3, fun _ => Z10x6, Z10x0, fun _ => (by (with_reducible repeat (first | apply Kd.R_alloc | apply Kd.R_drewN | apply Kd.R_drew)); exact HO366.out), z_HO373, z_HO376, z_HO379, fun h0_ => absurd ((hoff 12 (by kernel_rfl)).symm.trans h0_) (by decide), Q_X10_, fun h0_ => absurd ((hoff 11 (by kernel_rfl)).symm.trans h0_) (by decide)⟩
    refine steps_cons ?_ ?_
    ·rintro b a w' ⟨v365, v372, v375, v378, m10_, m11_, ha, Q_BK360, Q_BK361, Q_HB, Q_HO366, Q_HO373, Q_HO376, Q_HO379, Q_BK361_e12, Q_X10_, Q_X11_⟩ hb_ hon hoff
     refine ⟨_, rfl, fun K hK => ?_⟩
     have e27 : a.tmps[27]? = some (.pointer (some ⟨gb360, 4, none⟩)) := by rw [ha]; exact (putSel_off rfl).trans rfl
     replace ha := Aside0.mk ha;have BK360 := Aside0.mk Q_BK360;have BK361 := Aside0.mk (Q_BK361 (hoff 12 (by kernel_rfl)));have HB := Aside0.mk Q_HB;have hc0_ : w'.cell? ⟨gb360, 0, none⟩ = some (.int .i64 a1_0) := (blk_cell BK360.out 0).trans rfl;have hc1_ : w'.cell? ⟨gb360, 1, none⟩ = some (.int .i64 a1_1) := (blk_cell BK360.out 1).trans rfl;have hc2_ : w'.cell? ⟨gb360, 2, none⟩ = some (.int .i64 a1_2) := (blk_cell BK360.out 2).trans rfl;have hc3_ : w'.cell? ⟨gb360, 3, none⟩ = some (.int .i64 a1_3) := (blk_cell BK360.out 3).trans rfl;have hc4_ : w'.cell? ⟨gb360, 4, none⟩ = some (.int .i64 a1_4) := (blk_cell BK360.out 4).trans rfl;have hc5_ : w'.cell? ⟨gb360, 5, none⟩ = some (.int .i64 a1_5) := (blk_cell BK360.out 5).trans rfl;have hc6_ : w'.cell? ⟨gb360, 6, none⟩ = some (.int .i64 a1_6) := (blk_cell BK360.out 6).trans rfl;have hc7_ : w'.cell? ⟨gb360, 7, none⟩ = some (.int .i64 a1_7) := (blk_cell BK360.out 7).trans rfl;have hc8_ : w'.cell? ⟨gb360, 8, none⟩ = some (.slice A1_8 l1_8.length c1_8) := (blk_cell BK360.out 8).trans rfl;have hc9_ : w'.cell? ⟨gb360, 9, none⟩ = some (.slice A1_9 l1_9.length c1_9) := (blk_cell BK360.out 9).trans rfl;have hc10_ : w'.cell? ⟨gb360, 10, none⟩ = some (.slice A1_10 l1_10.length c1_10) := (blk_cell BK360.out 10).trans rfl;refine value_ (w1 := w') (v := .agg #[.int .i64 a1_4, .int .i64 a1_5, .int .i64 a1_6, .int .i64 a1_7, .slice A1_8 l1_8.length c1_8, .slice A1_9 l1_9.length c1_9, .slice A1_10 l1_10.length c1_10]) (by rfl) rfl ?_ ?_
     ·go_simp
      (try simp only [i64_w])
      try rfl
     refine hK.out _ _ ⟨v365, v372, v375, v378, m10_, m11_, (by rw [ha.out]; exact putSel_upk 4 hb_ rfl rfl rfl), Q_BK360, Q_BK361, Q_HB, Q_HO366, fun h0_ => absurd ((hoff 10 (by kernel_rfl)).symm.trans h0_) (by decide), fun h0_ => absurd ((hoff 10 (by kernel_rfl)).symm.trans h0_) (by decide), fun h0_ => absurd ((hoff 10 (by kernel_rfl)).symm.trans h0_) (by decide), fun h0_ => absurd ((hoff 12 (by kernel_rfl)).symm.trans h0_) (by decide), fun h0_ => absurd ((hoff 10 (by kernel_rfl)).symm.trans h0_) (by decide), fun h0_ => absurd ((hoff 11 (by kernel_rfl)).symm.trans h0_) (by decide)⟩
    refine steps_cons ?_ ?_
    ·rintro b a w' ⟨v365, v372, v375, v378, m10_, m11_, ha, Q_BK360, Q_BK361, Q_HB, Q_HO366, Q_HO373, Q_HO376, Q_HO379, Q_BK361_e12, Q_X10_, Q_X11_⟩ hb_ hon hoff
     refine ⟨_, rfl, fun K hK => ?_⟩
     have e28 : a.tmps[28]? = some (.agg #[.int .i64 a1_4, .int .i64 a1_5, .int .i64 a1_6, .int .i64 a1_7, .slice A1_8 l1_8.length c1_8, .slice A1_9 l1_9.length c1_9, .slice A1_10 l1_10.length c1_10]) := by rw [ha]; exact putSel_on (e := (9, 28, .agg #[.int .i64 a1_4, .int .i64 a1_5, .int .i64 a1_6, .int .i64 a1_7, .slice A1_8 l1_8.length c1_8, .slice A1_9 l1_9.length c1_9, .slice A1_10 l1_10.length c1_10])) 4 rfl rfl (hon 9 (by kernel_rfl)) rfl
     replace ha := Aside0.mk ha;have BK360 := Aside0.mk Q_BK360;have BK361 := Aside0.mk (Q_BK361 (hoff 12 (by kernel_rfl)));have HB := Aside0.mk Q_HB;refine goes_ Try.func36 (by kernel_rfl) rfl #[.agg #[.int .i64 a1_4, .int .i64 a1_5, .int .i64 a1_6, .int .i64 a1_7, .slice A1_8 l1_8.length c1_8, .slice A1_9 l1_9.length c1_9, .slice A1_10 l1_10.length c1_10]] (by rfl) rfl rfl (by first | (simp only [List.map_toArray, List.map_cons, List.map_nil, Act.eval, Array.getD_eq_getD_getElem?, Option.getD_some, e28]; done) | (simp only [List.map_toArray, List.map_cons, List.map_nil, Act.eval, Array.getD_eq_getD_getElem?, Option.getD_some, e28]; rfl)) ?_
     with_reducible refine (impl_copySketch.calls k a1_4 a1_5 a1_6 a1_7 _ _ l1_8 _ _ l1_9 _ _ l1_10 t367 t368 t369 t370 t371 t374 t377 _ ?side1 ?side2 ?side3 ?side4 ?side5 ?side6 A13.out).mono ?_
     (case side1 => exact Z10x13)
     (case side2 => exact HC1_8.out)
     (case side3 => exact Z10x14)
     (case side4 => exact HC1_9.out)
     (case side5 => exact Z10x12)
     (case side6 => exact HC1_10.out)
     rintro e w20 ⟨v372, v375, v378, rfl, ho0, ho1, ho2, hb⟩
     refine ⟨_, rfl, ?_⟩;have n0_ := Aside0.mk (Kd.R_lower ho0 (below_size Z10x0));have n1_ := Aside0.mk (Kd.R_lower ho1 (below_size Z10x0));have n2_ := Aside0.mk (Kd.S_lower ho2 (below_size Z10x0));have n3_ := Aside0.mk (blk_below (g := gb360) (o := .cells #[.int .i64 a1_0, .int .i64 a1_1, .int .i64 a1_2, .int .i64 a1_3, .int .i64 a1_4, .int .i64 a1_5, .int .i64 a1_6, .int .i64 a1_7, .slice A1_8 l1_8.length c1_8, .slice A1_9 l1_9.length c1_9, .slice A1_10 l1_10.length c1_10] 29 (0, 0)) Z10x3 hb);have n4_ := Aside0.mk (blk_below (g := gb361) (o := .cells #[.int .i64 0, .int .i64 0, .slice none 0 0, .int .i64 0, .int .i64 0, .int .i64 0, .int .i64 0, .slice none 0 0, .slice none 0 0, .slice none 0 0] 34 (0, 0)) Z10x6 hb);have n5_ := Aside0.mk (below_step Z10x0 hb)
     have z_HO366 := fun (h0_ : b 7 = true) => (show Kd.R k70 70 w20 w.heap.size (fun _ => True) v365 y364 from by first | exact (Kd.R_below (by (with_reducible repeat (first | apply Kd.R_alloc | apply Kd.R_drewN | apply Kd.R_drew)); exact (Q_HO366 h0_)) hb) | exact Kd.R_mono (Kd.R_below (by (with_reducible repeat (first | apply Kd.R_alloc | apply Kd.R_drewN | apply Kd.R_drew)); exact (Q_HO366 h0_)) hb) (fun _ h_ => by first | trivial | exact h_ | exact h_.1))
     clear BK360;clear BK361;clear HB;have HO373 := n0_;have HO376 := n1_;have HO379 := n2_;have BK360 := n3_;have BK361 := n4_;have HB := n5_;clear n0_ n1_ n2_ n3_ n4_ n5_
     (try clear hb)
     (try clear hb2)
     (try clear hk)
     (try clear hi)
     (try clear ho0)
     (try clear ho1)
     (try clear ho2)
     refine hK.out _ _ ⟨v365, v372, v375, v378, (.agg #[.int .i64 t367, .int .i64 t368, .int .i64 t369, .int .i64 t370, v372, v375, v378]), m11_, (by rw [ha.out]; exact putSel_upk 5 hb_ rfl rfl rfl), Z10x3, fun _ => Z10x6, Z10x0, z_HO366, fun _ => (by (with_reducible repeat (first | apply Kd.R_alloc | apply Kd.R_drewN | apply Kd.R_drew)); exact HO373.out), fun _ => (by (with_reducible repeat (first | apply Kd.R_alloc | apply Kd.R_drewN | apply Kd.R_drew)); exact HO376.out), fun _ => (by (with_reducible repeat (first | apply Kd.S_alloc | apply Kd.S_drewN | apply Kd.S_drew)); exact HO379.out), fun h0_ => absurd ((hoff 12 (by kernel_rfl)).symm.trans h0_) (by decide), fun _ => rfl, fun h0_ => absurd ((hoff 11 (by kernel_rfl)).symm.trans h0_) (by decide)⟩
    refine steps_cons ?_ ?_
    ·rintro b a w' ⟨v365, v372, v375, v378, m10_, m11_, ha, Q_BK360, Q_BK361, Q_HB, Q_HO366, Q_HO373, Q_HO376, Q_HO379, Q_BK361_e12, Q_X10_, Q_X11_⟩ hb_ hon hoff
     refine ⟨_, rfl, fun K hK => ?_⟩
     have e20 : a.tmps[20]? = some (.int .i64 a1_2) := by rw [ha]; exact putSel_on (e := (1, 20, .int .i64 a1_2)) 0 rfl rfl (hon 1 (by kernel_rfl)) rfl
     have e22 : a.tmps[22]? = some (.int .i64 a1_3) := by rw [ha]; exact putSel_on (e := (3, 22, .int .i64 a1_3)) 1 rfl rfl (hon 3 (by kernel_rfl)) rfl
     have e26 : a.tmps[26]? = some (v365) := by rw [ha]; exact putSel_on (e := (7, 26, v365)) 3 rfl rfl (hon 7 (by kernel_rfl)) rfl
     have e29 : a.tmps[29]? = some (m10_) := by rw [ha]; exact putSel_on (e := (10, 29, m10_)) 5 rfl rfl (hon 10 (by kernel_rfl)) rfl
     rw [Q_X10_ (hon 10 (by kernel_rfl))] at e29;replace ha := Aside0.mk ha;have BK360 := Aside0.mk Q_BK360;have BK361 := Aside0.mk (Q_BK361 (hoff 12 (by kernel_rfl)));have HB := Aside0.mk Q_HB;have HO366 := Aside0.mk (Q_HO366 (hon 7 (by kernel_rfl)));have HO373 := Aside0.mk (Q_HO373 (hon 10 (by kernel_rfl)));have HO376 := Aside0.mk (Q_HO376 (hon 10 (by kernel_rfl)));have HO379 := Aside0.mk (Q_HO379 (hon 10 (by kernel_rfl)));obtain ⟨Ao11_0, co11_0, eo_⟩ := Kd.R_slice HO366.out;subst eo_;obtain ⟨Ao11_1, co11_1, eo_⟩ := Kd.R_slice HO373.out;subst eo_;obtain ⟨Ao11_2, co11_2, eo_⟩ := Kd.R_slice HO376.out;subst eo_;obtain ⟨Ao11_3, co11_3, eo_⟩ := Kd.S_slice HO379.out;subst eo_;refine value_ (w1 := w') (v := .agg #[.int .i64 a1_2, .int .i64 a1_3, .slice Ao11_0 y364.length co11_0, .int .i64 t367, .int .i64 t368, .int .i64 t369, .int .i64 t370, .slice Ao11_1 t371.length co11_1, .slice Ao11_2 t374.length co11_2, .slice Ao11_3 t377.length co11_3]) (by rfl) rfl ?_ ?_
     ·go_simp
      (try simp only [i64_w])
      try rfl
     refine hK.out _ _ ⟨.slice Ao11_0 y364.length co11_0, .slice Ao11_1 t371.length co11_1, .slice Ao11_2 t374.length co11_2, .slice Ao11_3 t377.length co11_3, m10_, (.agg #[.int .i64 a1_2, .int .i64 a1_3, .slice Ao11_0 y364.length co11_0, .int .i64 t367, .int .i64 t368, .int .i64 t369, .int .i64 t370, .slice Ao11_1 t371.length co11_1, .slice Ao11_2 t374.length co11_2, .slice Ao11_3 t377.length co11_3]), (by rw [ha.out]; exact putSel_upk 6 hb_ rfl rfl rfl), Q_BK360, Q_BK361, Q_HB, Q_HO366, Q_HO373, Q_HO376, Q_HO379, fun h0_ => absurd ((hoff 12 (by kernel_rfl)).symm.trans h0_) (by decide), Q_X10_, fun _ => rfl⟩
    refine steps_cons ?_ ?_
    ·rintro b a w' ⟨v365, v372, v375, v378, m10_, m11_, ha, Q_BK360, Q_BK361, Q_HB, Q_HO366, Q_HO373, Q_HO376, Q_HO379, Q_BK361_e12, Q_X10_, Q_X11_⟩ hb_ hon hoff
     refine ⟨_, rfl, fun K hK => ?_⟩
     have e4 : a.tmps[4]? = some (.pointer (some ⟨gb361, 0, none⟩)) := by rw [ha]; exact (putSel_off rfl).trans rfl
     have e30 : a.tmps[30]? = some (m11_) := by rw [ha]; exact putSel_on (e := (11, 30, m11_)) 6 rfl rfl (hon 11 (by kernel_rfl)) rfl
     rw [Q_X11_ (hon 11 (by kernel_rfl))] at e30;replace ha := Aside0.mk ha;have BK360 := Aside0.mk Q_BK360;have BK361 := Aside0.mk (Q_BK361 hb_);have HB := Aside0.mk Q_HB;have HO366 := Aside0.mk (Q_HO366 (hon 7 (by kernel_rfl)));have HO373 := Aside0.mk (Q_HO373 (hon 10 (by kernel_rfl)));have HO376 := Aside0.mk (Q_HO376 (hon 10 (by kernel_rfl)));have HO379 := Aside0.mk (Q_HO379 (hon 10 (by kernel_rfl)));obtain ⟨Ao28, co28, eo28⟩ := Kd.S_slice HO379.out
     (first | subst eo28 | (injection eo28 with f1_ f2_ f3_; have f4_ := f1_.symm; have f5_ := f3_.symm; clear f1_ f2_ f3_; subst f4_; subst f5_))
     obtain ⟨Ao29, co29, eo29⟩ := Kd.R_slice HO376.out
     (first | subst eo29 | (injection eo29 with f1_ f2_ f3_; have f4_ := f1_.symm; have f5_ := f3_.symm; clear f1_ f2_ f3_; subst f4_; subst f5_))
     obtain ⟨Ao30, co30, eo30⟩ := Kd.R_slice HO373.out
     (first | subst eo30 | (injection eo30 with f1_ f2_ f3_; have f4_ := f1_.symm; have f5_ := f3_.symm; clear f1_ f2_ f3_; subst f4_; subst f5_))
     obtain ⟨Ao31, co31, eo31⟩ := Kd.R_slice HO366.out
     (first | subst eo31 | (injection eo31 with f1_ f2_ f3_; have f4_ := f1_.symm; have f5_ := f3_.symm; clear f1_ f2_ f3_; subst f4_; subst f5_))
     have hs32 : w'.cell? ⟨gb361, 0, none⟩ = some (.int .i64 0) := (blk_cell BK361.out 0).trans rfl;have hfs32 := blk_frozen BK361.out 0;have hns32_0 := NB360_361.out;have hms32_0 := NB361_360.out;have hs33 : w'.cell? ⟨gb361, 1, none⟩ = some (.int .i64 0) := (blk_cell BK361.out 1).trans rfl;have hfs33 := blk_frozen BK361.out 1;have hns33_0 := NB360_361.out;have hms33_0 := NB361_360.out;have hs34 : w'.cell? ⟨gb361, 2, none⟩ = some (.slice none 0 0) := (blk_cell BK361.out 2).trans rfl;have hfs34 := blk_frozen BK361.out 2;have hns34_0 := NB360_361.out;have hms34_0 := NB361_360.out;have hs35 : w'.cell? ⟨gb361, 3, none⟩ = some (.int .i64 0) := (blk_cell BK361.out 3).trans rfl;have hfs35 := blk_frozen BK361.out 3;have hns35_0 := NB360_361.out;have hms35_0 := NB361_360.out;have hs36 : w'.cell? ⟨gb361, 4, none⟩ = some (.int .i64 0) := (blk_cell BK361.out 4).trans rfl;have hfs36 := blk_frozen BK361.out 4;have hns36_0 := NB360_361.out;have hms36_0 := NB361_360.out;have hs37 : w'.cell? ⟨gb361, 5, none⟩ = some (.int .i64 0) := (blk_cell BK361.out 5).trans rfl;have hfs37 := blk_frozen BK361.out 5;have hns37_0 := NB360_361.out;have hms37_0 := NB361_360.out;have hs38 : w'.cell? ⟨gb361, 6, none⟩ = some (.int .i64 0) := (blk_cell BK361.out 6).trans rfl;have hfs38 := blk_frozen BK361.out 6;have hns38_0 := NB360_361.out;have hms38_0 := NB361_360.out;have hs39 : w'.cell? ⟨gb361, 7, none⟩ = some (.slice none 0 0) := (blk_cell BK361.out 7).trans rfl;have hfs39 := blk_frozen BK361.out 7;have hns39_0 := NB360_361.out;have hms39_0 := NB361_360.out;have hs40 : w'.cell? ⟨gb361, 8, none⟩ = some (.slice none 0 0) := (blk_cell BK361.out 8).trans rfl;have hfs40 := blk_frozen BK361.out 8;have hns40_0 := NB360_361.out;have hms40_0 := NB361_360.out;have hs41 : w'.cell? ⟨gb361, 9, none⟩ = some (.slice none 0 0) := (blk_cell BK361.out 9).trans rfl;have hfs41 := blk_frozen BK361.out 9;have hns41_0 := NB360_361.out;have hms41_0 := NB361_360.out;refine skip_ (w1 := ?_) (by rfl) rfl ?_ ?_
     rotate_left
     ·go_simp
      rfl
     refine hK.out _ _ ⟨.slice Ao31 y364.length co31, .slice Ao30 t371.length co30, .slice Ao29 t374.length co29, .slice Ao28 t377.length co28, m10_, m11_, (by rw [ha.out]; exact putSel_none (v := undef) rfl), (by (with_reducible repeat (first | refine blk_drewN ?_ _ | refine blk_drew ?_ | refine blk_alloc ?_ _)); refine blk_far ?_ NB360_361.out _; (with_reducible repeat (first | refine blk_drewN ?_ _ | refine blk_drew ?_ | refine blk_alloc ?_ _)); refine blk_far ?_ NB360_361.out _; (with_reducible repeat (first | refine blk_drewN ?_ _ | refine blk_drew ?_ | refine blk_alloc ?_ _)); refine blk_far ?_ NB360_361.out _; (with_reducible repeat (first | refine blk_drewN ?_ _ | refine blk_drew ?_ | refine blk_alloc ?_ _)); refine blk_far ?_ NB360_361.out _; (with_reducible repeat (first | refine blk_drewN ?_ _ | refine blk_drew ?_ | refine blk_alloc ?_ _)); refine blk_far ?_ NB360_361.out _; (with_reducible repeat (first | refine blk_drewN ?_ _ | refine blk_drew ?_ | refine blk_alloc ?_ _)); refine blk_far ?_ NB360_361.out _; (with_reducible repeat (first | refine blk_drewN ?_ _ | refine blk_drew ?_ | refine blk_alloc ?_ _)); refine blk_far ?_ NB360_361.out _; (with_reducible repeat (first | refine blk_drewN ?_ _ | refine blk_drew ?_ | refine blk_alloc ?_ _)); refine blk_far ?_ NB360_361.out _; (with_reducible repeat (first | refine blk_drewN ?_ _ | refine blk_drew ?_ | refine blk_alloc ?_ _)); refine blk_far ?_ NB360_361.out _; (with_reducible repeat (first | refine blk_drewN ?_ _ | refine blk_drew ?_ | refine blk_alloc ?_ _)); refine blk_far ?_ NB360_361.out _; (with_reducible repeat (first | refine blk_drewN ?_ _ | refine blk_drew ?_ | refine blk_alloc ?_ _)); exact BK360.out), fun h0_ => absurd ((up_self b 12).symm.trans h0_) (by decide), Z10x0, fun _ => (by (with_reducible repeat (first | apply Kd.R_alloc | apply Kd.R_drewN | apply Kd.R_drew)); exact Kd.R_mono (Kd.R_far (p := ⟨gb361, 9, none⟩) (Kd.R_far (p := ⟨gb361, 8, none⟩) (Kd.R_far (p := ⟨gb361, 7, none⟩) (Kd.R_far (p := ⟨gb361, 6, none⟩) (Kd.R_far (p := ⟨gb361, 5, none⟩) (Kd.R_far (p := ⟨gb361, 4, none⟩) (Kd.R_far (p := ⟨gb361, 3, none⟩) (Kd.R_far (p := ⟨gb361, 2, none⟩) (Kd.R_far (p := ⟨gb361, 1, none⟩) (Kd.R_far (p := ⟨gb361, 0, none⟩) (Kd.R_types HO366.out BK361.out (by decide)) (fun _ hk => hk.2) (.int .i64 a1_2)) (fun _ hk => hk.2) (.int .i64 a1_3)) (fun _ hk => hk.2) (.slice Ao31 y364.length co31)) (fun _ hk => hk.2) (.int .i64 t367)) (fun _ hk => hk.2) (.int .i64 t368)) (fun _ hk => hk.2) (.int .i64 t369)) (fun _ hk => hk.2) (.int .i64 t370)) (fun _ hk => hk.2) (.slice Ao30 t371.length co30)) (fun _ hk => hk.2) (.slice Ao29 t374.length co29)) (fun _ hk => hk.2) (.slice Ao28 t377.length co28)) (fun _ hk => trivial)), fun _ => (by (with_reducible repeat (first | apply Kd.R_alloc | apply Kd.R_drewN | apply Kd.R_drew)); exact Kd.R_mono (Kd.R_far (p := ⟨gb361, 9, none⟩) (Kd.R_far (p := ⟨gb361, 8, none⟩) (Kd.R_far (p := ⟨gb361, 7, none⟩) (Kd.R_far (p := ⟨gb361, 6, none⟩) (Kd.R_far (p := ⟨gb361, 5, none⟩) (Kd.R_far (p := ⟨gb361, 4, none⟩) (Kd.R_far (p := ⟨gb361, 3, none⟩) (Kd.R_far (p := ⟨gb361, 2, none⟩) (Kd.R_far (p := ⟨gb361, 1, none⟩) (Kd.R_far (p := ⟨gb361, 0, none⟩) (Kd.R_types HO373.out BK361.out (by decide)) (fun _ hk => hk.2) (.int .i64 a1_2)) (fun _ hk => hk.2) (.int .i64 a1_3)) (fun _ hk => hk.2) (.slice Ao31 y364.length co31)) (fun _ hk => hk.2) (.int .i64 t367)) (fun _ hk => hk.2) (.int .i64 t368)) (fun _ hk => hk.2) (.int .i64 t369)) (fun _ hk => hk.2) (.int .i64 t370)) (fun _ hk => hk.2) (.slice Ao30 t371.length co30)) (fun _ hk => hk.2) (.slice Ao29 t374.length co29)) (fun _ hk => hk.2) (.slice Ao28 t377.length co28)) (fun _ hk => hk.1)), fun _ => (by (with_reducible repeat (first | apply Kd.R_alloc | apply Kd.R_drewN | apply Kd.R_drew)); exact Kd.R_mono (Kd.R_far (p := ⟨gb361, 9, none⟩) (Kd.R_far (p := ⟨gb361, 8, none⟩) (Kd.R_far (p := ⟨gb361, 7, none⟩) (Kd.R_far (p := ⟨gb361, 6, none⟩) (Kd.R_far (p := ⟨gb361, 5, none⟩) (Kd.R_far (p := ⟨gb361, 4, none⟩) (Kd.R_far (p := ⟨gb361, 3, none⟩) (Kd.R_far (p := ⟨gb361, 2, none⟩) (Kd.R_far (p := ⟨gb361, 1, none⟩) (Kd.R_far (p := ⟨gb361, 0, none⟩) (Kd.R_types HO376.out BK361.out (by decide)) (fun _ hk => hk.2) (.int .i64 a1_2)) (fun _ hk => hk.2) (.int .i64 a1_3)) (fun _ hk => hk.2) (.slice Ao31 y364.length co31)) (fun _ hk => hk.2) (.int .i64 t367)) (fun _ hk => hk.2) (.int .i64 t368)) (fun _ hk => hk.2) (.int .i64 t369)) (fun _ hk => hk.2) (.int .i64 t370)) (fun _ hk => hk.2) (.slice Ao30 t371.length co30)) (fun _ hk => hk.2) (.slice Ao29 t374.length co29)) (fun _ hk => hk.2) (.slice Ao28 t377.length co28)) (fun _ hk => hk.1)), fun _ => (by (with_reducible repeat (first | apply Kd.S_alloc | apply Kd.S_drewN | apply Kd.S_drew)); exact Kd.S_mono (Kd.S_far (p := ⟨gb361, 9, none⟩) (Kd.S_far (p := ⟨gb361, 8, none⟩) (Kd.S_far (p := ⟨gb361, 7, none⟩) (Kd.S_far (p := ⟨gb361, 6, none⟩) (Kd.S_far (p := ⟨gb361, 5, none⟩) (Kd.S_far (p := ⟨gb361, 4, none⟩) (Kd.S_far (p := ⟨gb361, 3, none⟩) (Kd.S_far (p := ⟨gb361, 2, none⟩) (Kd.S_far (p := ⟨gb361, 1, none⟩) (Kd.S_far (p := ⟨gb361, 0, none⟩) (Kd.S_types HO379.out BK361.out (by decide)) (fun _ hk => hk.2) (.int .i64 a1_2)) (fun _ hk => hk.2) (.int .i64 a1_3)) (fun _ hk => hk.2) (.slice Ao31 y364.length co31)) (fun _ hk => hk.2) (.int .i64 t367)) (fun _ hk => hk.2) (.int .i64 t368)) (fun _ hk => hk.2) (.int .i64 t369)) (fun _ hk => hk.2) (.int .i64 t370)) (fun _ hk => hk.2) (.slice Ao30 t371.length co30)) (fun _ hk => hk.2) (.slice Ao29 t374.length co29)) (fun _ hk => hk.2) (.slice Ao28 t377.length co28)) (fun _ hk => ⟨hk.1.1, hk.1.2⟩)), fun _ => (by (with_reducible repeat (first | refine blk_drewN ?_ _ | refine blk_drew ?_ | refine blk_alloc ?_ _)); refine blk_put (cs := #[.int .i64 a1_2, .int .i64 a1_3, .slice Ao31 y364.length co31, .int .i64 t367, .int .i64 t368, .int .i64 t369, .int .i64 t370, .slice Ao30 t371.length co30, .slice Ao29 t374.length co29, .slice none 0 0]) ?_ 9 _ rfl; (with_reducible repeat (first | refine blk_drewN ?_ _ | refine blk_drew ?_ | refine blk_alloc ?_ _)); refine blk_put (cs := #[.int .i64 a1_2, .int .i64 a1_3, .slice Ao31 y364.length co31, .int .i64 t367, .int .i64 t368, .int .i64 t369, .int .i64 t370, .slice Ao30 t371.length co30, .slice none 0 0, .slice none 0 0]) ?_ 8 _ rfl; (with_reducible repeat (first | refine blk_drewN ?_ _ | refine blk_drew ?_ | refine blk_alloc ?_ _)); refine blk_put (cs := #[.int .i64 a1_2, .int .i64 a1_3, .slice Ao31 y364.length co31, .int .i64 t367, .int .i64 t368, .int .i64 t369, .int .i64 t370, .slice none 0 0, .slice none 0 0, .slice none 0 0]) ?_ 7 _ rfl; (with_reducible repeat (first | refine blk_drewN ?_ _ | refine blk_drew ?_ | refine blk_alloc ?_ _)); refine blk_put (cs := #[.int .i64 a1_2, .int .i64 a1_3, .slice Ao31 y364.length co31, .int .i64 t367, .int .i64 t368, .int .i64 t369, .int .i64 0, .slice none 0 0, .slice none 0 0, .slice none 0 0]) ?_ 6 _ rfl; (with_reducible repeat (first | refine blk_drewN ?_ _ | refine blk_drew ?_ | refine blk_alloc ?_ _)); refine blk_put (cs := #[.int .i64 a1_2, .int .i64 a1_3, .slice Ao31 y364.length co31, .int .i64 t367, .int .i64 t368, .int .i64 0, .int .i64 0, .slice none 0 0, .slice none 0 0, .slice none 0 0]) ?_ 5 _ rfl; (with_reducible repeat (first | refine blk_drewN ?_ _ | refine blk_drew ?_ | refine blk_alloc ?_ _)); refine blk_put (cs := #[.int .i64 a1_2, .int .i64 a1_3, .slice Ao31 y364.length co31, .int .i64 t367, .int .i64 0, .int .i64 0, .int .i64 0, .slice none 0 0, .slice none 0 0, .slice none 0 0]) ?_ 4 _ rfl; (with_reducible repeat (first | refine blk_drewN ?_ _ | refine blk_drew ?_ | refine blk_alloc ?_ _)); refine blk_put (cs := #[.int .i64 a1_2, .int .i64 a1_3, .slice Ao31 y364.length co31, .int .i64 0, .int .i64 0, .int .i64 0, .int .i64 0, .slice none 0 0, .slice none 0 0, .slice none 0 0]) ?_ 3 _ rfl; (with_reducible repeat (first | refine blk_drewN ?_ _ | refine blk_drew ?_ | refine blk_alloc ?_ _)); refine blk_put (cs := #[.int .i64 a1_2, .int .i64 a1_3, .slice none 0 0, .int .i64 0, .int .i64 0, .int .i64 0, .int .i64 0, .slice none 0 0, .slice none 0 0, .slice none 0 0]) ?_ 2 _ rfl; (with_reducible repeat (first | refine blk_drewN ?_ _ | refine blk_drew ?_ | refine blk_alloc ?_ _)); refine blk_put (cs := #[.int .i64 a1_2, .int .i64 0, .slice none 0 0, .int .i64 0, .int .i64 0, .int .i64 0, .int .i64 0, .slice none 0 0, .slice none 0 0, .slice none 0 0]) ?_ 1 _ rfl; (with_reducible repeat (first | refine blk_drewN ?_ _ | refine blk_drew ?_ | refine blk_alloc ?_ _)); refine blk_put (cs := #[.int .i64 0, .int .i64 0, .slice none 0 0, .int .i64 0, .int .i64 0, .int .i64 0, .int .i64 0, .slice none 0 0, .slice none 0 0, .slice none 0 0]) ?_ 0 _ rfl; (with_reducible repeat (first | refine blk_drewN ?_ _ | refine blk_drew ?_ | refine blk_alloc ?_ _)); exact BK361.out), Q_X10_, Q_X11_⟩
    refine steps_cons ?_ ?_
    ·rintro b a w' ⟨v365, v372, v375, v378, m10_, m11_, ha, Q_BK360, Q_BK361, Q_HB, Q_HO366, Q_HO373, Q_HO376, Q_HO379, Q_BK361_e12, Q_X10_, Q_X11_⟩ hb_ hon hoff
     refine ⟨_, rfl, fun K hK => ?_⟩;replace ha := Aside0.mk ha;have BK360 := Aside0.mk Q_BK360;have HB := Aside0.mk Q_HB;have HO366 := Aside0.mk (Q_HO366 (hon 7 (by kernel_rfl)));have HO373 := Aside0.mk (Q_HO373 (hon 10 (by kernel_rfl)));have HO376 := Aside0.mk (Q_HO376 (hon 10 (by kernel_rfl)));have HO379 := Aside0.mk (Q_HO379 (hon 10 (by kernel_rfl)));have BK361 := Aside0.mk (Q_BK361_e12 (hon 12 (by kernel_rfl)));refine value_ (w1 := w') (v := .bool true) (by rfl) rfl ?_ ?_
     ·go_simp
      (try simp only [i64_w])
      try rfl
     refine hK.out _ _ ⟨v365, v372, v375, v378, m10_, m11_, (by rw [ha.out]; exact putSel_upk 7 hb_ rfl rfl rfl), Q_BK360, fun h0_ => absurd ((hon 12 (by kernel_rfl)).symm.trans h0_) (by decide), Q_HB, Q_HO366, Q_HO373, Q_HO376, Q_HO379, Q_BK361_e12, Q_X10_, Q_X11_⟩
    exact steps_nil
   rintro b a w37 hall ⟨v365, v372, v375, v378, m10_, m11_, ha, Q_BK360, Q_BK361, Q_HB, Q_HO366, Q_HO373, Q_HO376, Q_HO379, Q_BK361_e12, Q_X10_, Q_X11_⟩
   clear BK360 BK361 HB
   have hb1_ := hall 1 (by kernel_rfl)
   have hb3_ := hall 3 (by kernel_rfl)
   have hb6_ := hall 6 (by kernel_rfl)
   have hb7_ := hall 7 (by kernel_rfl)
   have hb9_ := hall 9 (by kernel_rfl)
   have hb10_ := hall 10 (by kernel_rfl)
   have hb11_ := hall 11 (by kernel_rfl)
   have hb12_ := hall 12 (by kernel_rfl)
   have hb13_ := hall 13 (by kernel_rfl)
   subst ha
   obtain rfl := Q_X10_ hb10_
   obtain rfl := Q_X11_ hb11_
   simp only [putSel, hb1_, hb3_, hb6_, hb7_, hb9_, hb10_, hb11_, hb12_, hb13_, if_true, Act.put, List.setIfInBounds_toArray, List.set_cons_zero, List.set_cons_succ]
   have BK360 := Aside0.mk Q_BK360
   clear Q_BK360
   clear Q_BK361
   have HB := Aside0.mk Q_HB
   clear Q_HB
   have HO366 := Aside0.mk (Q_HO366 hb7_)
   clear Q_HO366
   have HO373 := Aside0.mk (Q_HO373 hb10_)
   clear Q_HO373
   have HO376 := Aside0.mk (Q_HO376 hb10_)
   clear Q_HO376
   have HO379 := Aside0.mk (Q_HO379 hb10_)
   clear Q_HO379
   have BK361 := Aside0.mk (Q_BK361_e12 hb12_)
   clear Q_BK361_e12
   clear hall hb1_ hb3_ hb6_ hb7_ hb9_ hb10_ hb11_ hb12_ hb13_
   obtain ⟨Ao38, co38, eo38⟩ := Kd.S_slice HO379.out
   (first | subst eo38 | (injection eo38 with f1_ f2_ f3_; have f4_ := f1_.symm; have f5_ := f3_.symm; clear f1_ f2_ f3_; subst f4_; subst f5_))
   obtain ⟨Ao39, co39, eo39⟩ := Kd.R_slice HO376.out
   (first | subst eo39 | (injection eo39 with f1_ f2_ f3_; have f4_ := f1_.symm; have f5_ := f3_.symm; clear f1_ f2_ f3_; subst f4_; subst f5_))
   obtain ⟨Ao40, co40, eo40⟩ := Kd.R_slice HO373.out
   (first | subst eo40 | (injection eo40 with f1_ f2_ f3_; have f4_ := f1_.symm; have f5_ := f3_.symm; clear f1_ f2_ f3_; subst f4_; subst f5_))
   obtain ⟨Ao41, co41, eo41⟩ := Kd.R_slice HO366.out
   (first | subst eo41 | (injection eo41 with f1_ f2_ f3_; have f4_ := f1_.symm; have f5_ := f3_.symm; clear f1_ f2_ f3_; subst f4_; subst f5_))
   try go_wp2
   refine bodyPost_ret (results_ct rfl _ _ gb361 34 #[.int .i64 a1_2, .int .i64 a1_3, .slice Ao41 y364.length co41, .int .i64 t367, .int .i64 t368, .int .i64 t369, .int .i64 t370, .slice Ao40 t371.length co40, .slice Ao39 t374.length co39, .slice Ao38 t377.length co38] (0, 0) _ rfl Z10x6 Try.underlying34 rfl (by kernel_rfl)) rfl ?_
   exact ⟨_, _, _, _, Z10x11, by (with_reducible repeat (first | apply Kd.R_alloc | apply Kd.R_drewN | apply Kd.R_drew)); exact HO366.out, by (with_reducible repeat (first | apply Kd.R_alloc | apply Kd.R_drewN | apply Kd.R_drew)); exact HO373.out, by (with_reducible repeat (first | apply Kd.R_alloc | apply Kd.R_drewN | apply Kd.R_drew)); exact HO376.out, by (with_reducible repeat (first | apply Kd.S_alloc | apply Kd.S_drewN | apply Kd.S_drew)); exact HO379.out, Z10x0⟩
 ·replace c5 := Bool.eq_false_iff.mpr c5
  subst c5
  have H1 : (some (0, 0, ([] : List (S70)), 0, 0, 0, 0, ([] : List Int), ([] : List Int), ([] : List (List Int)), false)) = some (r1, r2, r3, r4, r5, r6, r7, r8, r9, r10, r11) := by rw [if_neg (show ¬ (false = true) by decide)] at H; exact H
  clear H
  have H := H1
  clear H1
  simp only [Option.some.injEq, Prod.mk.injEq] at H
  obtain ⟨rfl, rfl, rfl, rfl, rfl, rfl, rfl, rfl, rfl, rfl, rfl⟩ := H
  go_enter Try.func9, Try.ntmps9
  go_wp2_with (first | ((with_reducible refine gate_dst (N := 3) rfl ?_); refine box_event ?hg (N := 3) ?hd (cs := #[.int .i64 a1_0, .int .i64 a1_1, .int .i64 a1_2, .int .i64 a1_3, .int .i64 a1_4, .int .i64 a1_5, .int .i64 a1_6, .int .i64 a1_7, .slice A1_8 l1_8.length c1_8, .slice A1_9 l1_9.length c1_9, .slice A1_10 l1_10.length c1_10]) (t := 29) ?hr ?_; (case hd => rfl); (case hg => rfl); (case hr => first | (go_simp; done) | (go_simp; rfl)); intro gb360 hg w42 hbox hb; have n0_ := Aside0.mk (below_step Z10x2 hb); have n1_ := Aside0.mk (hbox); have n2_ := Aside0.mk ((Z10x15 : w.heap.size ≤ gb360)); have n3_ := Aside0.mk ((Z10x15 : w.heap.size ≤ gb360)); clear HB; have HB := n0_; have BK360 := n1_; have GW360 := n2_; have GE360 := n3_; clear n0_ n1_ n2_ n3_; clear hb hbox hg) | ((with_reducible refine gate_dst (N := 4) rfl ?_); refine box_event ?hg (N := 4) ?hd (cs := #[.int .i64 0, .int .i64 0, .slice none 0 0, .int .i64 0, .int .i64 0, .int .i64 0, .int .i64 0, .slice none 0 0, .slice none 0 0, .slice none 0 0]) (t := 34) ?hr ?_; (case hd => rfl); (case hg => rfl); (case hr => first | (go_simp; done) | (go_simp; rfl)); intro gb361 hg w43 hbox hb; have n0_ := Aside0.mk (blk_below (g := gb360) (o := .cells #[.int .i64 a1_0, .int .i64 a1_1, .int .i64 a1_2, .int .i64 a1_3, .int .i64 a1_4, .int .i64 a1_5, .int .i64 a1_6, .int .i64 a1_7, .slice A1_8 l1_8.length c1_8, .slice A1_9 l1_9.length c1_9, .slice A1_10 l1_10.length c1_10] 29 (0, 0)) Z10x3 hb); have n1_ := Aside0.mk (below_step Z10x5 hb); have n2_ := Aside0.mk (hbox); have n3_ := Aside0.mk ((by rw [hg]; exact (below_size Z10x5) : w.heap.size ≤ gb361)); have n4_ := Aside0.mk ((by rw [hg]; exact (below_size Z10x5) : w.heap.size ≤ gb361)); have n5_ := Aside0.mk ((Z10x9 : gb360 ≠ gb361)); have n6_ := Aside0.mk ((Z10x10 : gb361 ≠ gb360)); clear BK360; clear HB; have BK360 := n0_; have HB := n1_; have BK361 := n2_; have GW361 := n3_; have GE361 := n4_; have NB360_361 := n5_; have NB361_360 := n6_; clear n0_ n1_ n2_ n3_ n4_ n5_ n6_; clear hb hbox hg; have hnb44 := NB360_361.out; have hnc44 := NB361_360.out; obtain ⟨hcz45_0, hcz45_1, hcz45_2, hcz45_3, hcz45_4, hcz45_5, hcz45_6, hcz45_7, hcz45_8, hcz45_9, hcz45_10⟩ := cz11 BK360.out; obtain ⟨hfz45_0, hfz45_1, hfz45_2, hfz45_3, hfz45_4, hfz45_5, hfz45_6, hfz45_7, hfz45_8, hfz45_9, hfz45_10⟩ := fz11 BK360.out) | ((with_reducible refine gate_callee (f := 12) rfl ?_); refine goesL_ (some 10) rfl rfl Try.func12 (by kernel_rfl) rfl #[.int .i64 a0, .int .i64 a1_0] rfl Z10x4 ?_; (with_reducible refine (impl_IdOf.calls a0 a1_0 t362 _ A3.out).mono ?_); rintro e w' ⟨rfl, ⟨nd, rfl⟩⟩; refine ⟨_, rfl, ?_⟩; (try (rw [drewN_self w43]; generalize hq_ : World.drewN w43 _ = w43; have n0_ : Aside0 (w43.heap[gb360]? = some (.cells #[.int .i64 a1_0, .int .i64 a1_1, .int .i64 a1_2, .int .i64 a1_3, .int .i64 a1_4, .int .i64 a1_5, .int .i64 a1_6, .int .i64 a1_7, .slice A1_8 l1_8.length c1_8, .slice A1_9 l1_9.length c1_9, .slice A1_10 l1_10.length c1_10] 29 (0, 0))) := ⟨by rw [← hq_]; exact Z10x3⟩; have n1_ : Aside0 (w43.heap[gb361]? = some (.cells #[.int .i64 0, .int .i64 0, .slice none 0 0, .int .i64 0, .int .i64 0, .int .i64 0, .int .i64 0, .slice none 0 0, .slice none 0 0, .slice none 0 0] 34 (0, 0))) := ⟨by rw [← hq_]; exact Z10x6⟩; have n2_ : Aside0 (Below w.heap.size w w43) := ⟨by rw [← hq_]; exact Z10x0⟩; clear BK360 BK361 HB hq_; have BK360 := n0_; have BK361 := n1_; have HB := n2_; clear n0_ n1_ n2_)); have hcy45_0 : w43.cell? ⟨gb360, 0, none⟩ = some (.int .i64 a1_0) := (blk_cell BK360.out 0).trans rfl; have hcy45_1 : w43.cell? ⟨gb360, 1, none⟩ = some (.int .i64 a1_1) := (blk_cell BK360.out 1).trans rfl; have hcy45_2 : w43.cell? ⟨gb360, 2, none⟩ = some (.int .i64 a1_2) := (blk_cell BK360.out 2).trans rfl; have hcy45_3 : w43.cell? ⟨gb360, 3, none⟩ = some (.int .i64 a1_3) := (blk_cell BK360.out 3).trans rfl; have hcy45_4 : w43.cell? ⟨gb360, 4, none⟩ = some (.int .i64 a1_4) := (blk_cell BK360.out 4).trans rfl; have hcy45_5 : w43.cell? ⟨gb360, 5, none⟩ = some (.int .i64 a1_5) := (blk_cell BK360.out 5).trans rfl; have hcy45_6 : w43.cell? ⟨gb360, 6, none⟩ = some (.int .i64 a1_6) := (blk_cell BK360.out 6).trans rfl; have hcy45_7 : w43.cell? ⟨gb360, 7, none⟩ = some (.int .i64 a1_7) := (blk_cell BK360.out 7).trans rfl; have hcy45_8 : w43.cell? ⟨gb360, 8, none⟩ = some (.slice A1_8 l1_8.length c1_8) := (blk_cell BK360.out 8).trans rfl; have hcy45_9 : w43.cell? ⟨gb360, 9, none⟩ = some (.slice A1_9 l1_9.length c1_9) := (blk_cell BK360.out 9).trans rfl; have hcy45_10 : w43.cell? ⟨gb360, 10, none⟩ = some (.slice A1_10 l1_10.length c1_10) := (blk_cell BK360.out 10).trans rfl) | ((with_reducible refine gate_callee (f := 15) rfl ?_); refine goesL_ (some 12) rfl rfl Try.func15 (by kernel_rfl) rfl #[.agg #[.int .i64 a1_0, .int .i64 a1_1, .int .i64 a1_2, .int .i64 a1_3, .int .i64 a1_4, .int .i64 a1_5, .int .i64 a1_6, .int .i64 a1_7, .slice A1_8 l1_8.length c1_8, .slice A1_9 l1_9.length c1_9, .slice A1_10 l1_10.length c1_10]] rfl Z10x4 ?_; (with_reducible refine (impl_ItemOk.calls k a1_0 a1_1 a1_2 a1_3 a1_4 a1_5 a1_6 a1_7 _ _ l1_8 _ _ l1_9 _ _ l1_10 false _ ?side1 ?side2 ?side3 ?side4 ?side5 ?side6 A4.out).mono ?_); (case side1 => exact Z10x13); (case side2 => exact HC1_8.out); (case side3 => exact Z10x14); (case side4 => exact HC1_9.out); (case side5 => exact Z10x12); (case side6 => exact HC1_10.out); rintro e w46 ⟨rfl, hb⟩; refine ⟨_, rfl, ?_⟩; have n0_ := Aside0.mk (blk_below (g := gb360) (o := .cells #[.int .i64 a1_0, .int .i64 a1_1, .int .i64 a1_2, .int .i64 a1_3, .int .i64 a1_4, .int .i64 a1_5, .int .i64 a1_6, .int .i64 a1_7, .slice A1_8 l1_8.length c1_8, .slice A1_9 l1_9.length c1_9, .slice A1_10 l1_10.length c1_10] 29 (0, 0)) Z10x3 hb); have n1_ := Aside0.mk (blk_below (g := gb361) (o := .cells #[.int .i64 0, .int .i64 0, .slice none 0 0, .int .i64 0, .int .i64 0, .int .i64 0, .int .i64 0, .slice none 0 0, .slice none 0 0, .slice none 0 0] 34 (0, 0)) Z10x6 hb); have n2_ := Aside0.mk (below_step Z10x0 hb); clear BK360; clear BK361; clear HB; have BK360 := n0_; have BK361 := n1_; have HB := n2_; clear n0_ n1_ n2_; (try clear hb); (try clear hb2); (try clear hk); (try clear hi); obtain ⟨hcz47_0, hcz47_1, hcz47_2, hcz47_3, hcz47_4, hcz47_5, hcz47_6, hcz47_7, hcz47_8, hcz47_9⟩ := cz10 BK361.out; obtain ⟨hfz47_0, hfz47_1, hfz47_2, hfz47_3, hfz47_4, hfz47_5, hfz47_6, hfz47_7, hfz47_8, hfz47_9⟩ := fz10 BK361.out))
  refine bodyPost_ret (results_ct rfl _ _ gb361 34 #[.int .i64 0, .int .i64 0, .slice none 0 0, .int .i64 0, .int .i64 0, .int .i64 0, .int .i64 0, .slice none 0 0, .slice none 0 0, .slice none 0 0] (0, 0) _ rfl Z10x1 Try.underlying34 rfl (by kernel_rfl)) rfl ?_
  exact ⟨_, _, _, _, Z10x11, Z10x8, Z10x8, Z10x8, by first | exact Kd.S_nil _ _ _ _ _ | exact Kd.N_nil _ _ _ _ _ | exact Kd.V_nil _ _ _ _ _ | exact Kd.Q_nil _ _ _ _ _ | exact Kd.R_nil _ _ _ _ _, Z10x0⟩

def spec_l6Agent.f (a0 : Int) : Option (Bool) := (spec_l1In.f a0 0 2).bind fun t380 => (some t380)
set_option maxHeartbeats 8000000 in
set_option maxRecDepth 100000 in
theorem spec_l6Agent.calls (a0 : Int) (r : Bool) (w : World) (h : spec_l6Agent.f a0 = some r) :
  Calls Try.prog 41 #[.int .i64 a0] w fun e w' => e = .returned (.bool r) ∧ Drawn0 w w' := by
 have H : ((spec_l1In.f a0 0 2).bind fun t380 => (some t380)) = some r := h
 clear h
 replace H := Option.bind_eq_some_iff.mp H
 obtain ⟨t380, A20, H⟩ := H
 replace H : (some t380) = some r := H
 have A2 := Aside0.mk A20
 clear A20
 obtain rfl := Option.some.inj H
 simp only [Option.some.injEq, Prod.mk.injEq] at H
 obtain ⟨rfl⟩ := H
 go_enter Try.func41, Try.ntmps41
 go_wp2_with (first | ((with_reducible refine gate_callee (f := 42) rfl ?_); refine goesL_ (some 4) rfl rfl Try.func42 (by kernel_rfl) rfl #[.int .i64 a0, .int .i64 0, .int .i64 2] rfl Z10x4 ?_; (with_reducible refine (spec_l1In.calls a0 0 2 t380 _ A2.out).mono ?_); rintro e w' ⟨rfl, ⟨nd, rfl⟩⟩; refine ⟨_, rfl, ?_⟩))
 go_ret
 exact ⟨by first | rfl | (simp; done) | (simp [*]; done), Z10x16⟩

def spec_IdOf.f (a0 : Int) (a1 : Int) : Option (Int) := (spec_l6Agent.f a0).bind fun t381 => (if t381 = true then ((spec_l1In.f a1 1 60).bind fun t382 => (if t382 = true then (some (wrap64 ((wrap64 (100 * a0)) + a1))) else (some (-1)))) else (some (-1)))
set_option maxHeartbeats 8000000 in
set_option maxRecDepth 100000 in
theorem spec_IdOf.calls (a0 : Int) (a1 : Int) (r : Int) (w : World) (h : spec_IdOf.f a0 a1 = some r) :
  Calls Try.prog 13 #[.int .i64 a0, .int .i64 a1] w fun e w' => e = .returned (.int .i64 r) ∧ Drawn0 w w' := by
 have H : ((spec_l6Agent.f a0).bind fun t381 => (if t381 = true then ((spec_l1In.f a1 1 60).bind fun t382 => (if t382 = true then (some (wrap64 ((wrap64 (100 * a0)) + a1))) else (some (-1)))) else (some (-1)))) = some r := h
 clear h
 replace H := Option.bind_eq_some_iff.mp H
 obtain ⟨t381, A30, H⟩ := H
 replace H : (if t381 = true then ((spec_l1In.f a1 1 60).bind fun t382 => (if t382 = true then (some (wrap64 ((wrap64 (100 * a0)) + a1))) else (some (-1)))) else (some (-1))) = some r := H
 have A3 := Aside0.mk A30
 clear A30
 by_cases c4 : t381 = true
 ·subst c4
  have H1 : ((spec_l1In.f a1 1 60).bind fun t382 => (if t382 = true then (some (wrap64 ((wrap64 (100 * a0)) + a1))) else (some (-1)))) = some r := by rw [if_pos rfl] at H; exact H
  clear H
  have H := H1
  clear H1
  replace H := Option.bind_eq_some_iff.mp H
  obtain ⟨t382, A50, H⟩ := H
  replace H : (if t382 = true then (some (wrap64 ((wrap64 (100 * a0)) + a1))) else (some (-1))) = some r := H
  have A5 := Aside0.mk A50
  clear A50
  by_cases c6 : t382 = true
  ·subst c6
   have H1 : (some (wrap64 ((wrap64 (100 * a0)) + a1))) = some r := by rw [if_pos rfl] at H; exact H
   clear H
   have H := H1
   clear H1
   obtain rfl := Option.some.inj H
   simp only [Option.some.injEq, Prod.mk.injEq] at H
   obtain ⟨rfl⟩ := H
   go_enter Try.func13, Try.ntmps13
   go_wp2_with (first | ((with_reducible refine gate_callee (f := 41) rfl ?_); refine goesL_ (some 6) rfl rfl Try.func41 (by kernel_rfl) rfl #[.int .i64 a0] rfl Z10x4 ?_; (with_reducible refine (spec_l6Agent.calls a0 true _ A3.out).mono ?_); rintro e w' ⟨rfl, ⟨nd, rfl⟩⟩; refine ⟨_, rfl, ?_⟩) | (go_at_call 42; (with_reducible refine (spec_l1In.calls a1 1 60 true _ A5.out).mono ?_); rintro e w' ⟨rfl, ⟨nd, rfl⟩⟩))
   go_ret
   exact ⟨by first | rfl | (simp; done) | (simp [*]; done), Z10x16⟩
  ·replace c6 := Bool.eq_false_iff.mpr c6
   subst c6
   have H1 : (some (-1)) = some r := by rw [if_neg (show ¬ (false = true) by decide)] at H; exact H
   clear H
   have H := H1
   clear H1
   obtain rfl := Option.some.inj H
   simp only [Option.some.injEq, Prod.mk.injEq] at H
   obtain ⟨rfl⟩ := H
   go_enter Try.func13, Try.ntmps13
   go_wp2_with (first | ((with_reducible refine gate_callee (f := 41) rfl ?_); refine goesL_ (some 6) rfl rfl Try.func41 (by kernel_rfl) rfl #[.int .i64 a0] rfl Z10x4 ?_; (with_reducible refine (spec_l6Agent.calls a0 true _ A3.out).mono ?_); rintro e w' ⟨rfl, ⟨nd, rfl⟩⟩; refine ⟨_, rfl, ?_⟩) | (go_at_call 42; (with_reducible refine (spec_l1In.calls a1 1 60 false _ A5.out).mono ?_); rintro e w' ⟨rfl, ⟨nd, rfl⟩⟩))
   go_ret
   exact ⟨by first | rfl | (simp; done) | (simp [*]; done), Z10x16⟩
 ·replace c4 := Bool.eq_false_iff.mpr c4
  subst c4
  have H1 : (some (-1)) = some r := by rw [if_neg (show ¬ (false = true) by decide)] at H; exact H
  clear H
  have H := H1
  clear H1
  obtain rfl := Option.some.inj H
  simp only [Option.some.injEq, Prod.mk.injEq] at H
  obtain ⟨rfl⟩ := H
  go_enter Try.func13, Try.ntmps13
  go_wp2_with (first | ((with_reducible refine gate_callee (f := 41) rfl ?_); refine goesL_ (some 6) rfl rfl Try.func41 (by kernel_rfl) rfl #[.int .i64 a0] rfl Z10x4 ?_; (with_reducible refine (spec_l6Agent.calls a0 false _ A3.out).mono ?_); rintro e w' ⟨rfl, ⟨nd, rfl⟩⟩; refine ⟨_, rfl, ?_⟩))
  go_ret
  exact ⟨by first | rfl | (simp; done) | (simp [*]; done), Z10x16⟩

def spec_l6Place.f (a0 : Int) (a1 : Int) : Option (Bool) := (spec_l1In.f a0 0 4).bind fun t383 => (if t383 = true then ((spec_l1In.f a1 0 20).bind fun t384 => (some t384)) else (some false))
set_option maxHeartbeats 8000000 in
set_option maxRecDepth 100000 in
theorem spec_l6Place.calls (a0 : Int) (a1 : Int) (r : Bool) (w : World) (h : spec_l6Place.f a0 a1 = some r) :
  Calls Try.prog 72 #[.int .i64 a0, .int .i64 a1] w fun e w' => e = .returned (.bool r) ∧ Drawn0 w w' := by
 have H : ((spec_l1In.f a0 0 4).bind fun t383 => (if t383 = true then ((spec_l1In.f a1 0 20).bind fun t384 => (some t384)) else (some false))) = some r := h
 clear h
 replace H := Option.bind_eq_some_iff.mp H
 obtain ⟨t383, A30, H⟩ := H
 replace H : (if t383 = true then ((spec_l1In.f a1 0 20).bind fun t384 => (some t384)) else (some false)) = some r := H
 have A3 := Aside0.mk A30
 clear A30
 by_cases c4 : t383 = true
 ·subst c4
  have H1 : ((spec_l1In.f a1 0 20).bind fun t384 => (some t384)) = some r := by rw [if_pos rfl] at H; exact H
  clear H
  have H := H1
  clear H1
  replace H := Option.bind_eq_some_iff.mp H
  obtain ⟨t384, A50, H⟩ := H
  replace H : (some t384) = some r := H
  have A5 := Aside0.mk A50
  clear A50
  obtain rfl := Option.some.inj H
  simp only [Option.some.injEq, Prod.mk.injEq] at H
  obtain ⟨rfl⟩ := H
  go_enter Try.func72, Try.ntmps72
  go_wp2_with (first | ((with_reducible refine gate_callee (f := 42) rfl ?_); refine goesL_ (some 6) rfl rfl Try.func42 (by kernel_rfl) rfl #[.int .i64 a0, .int .i64 0, .int .i64 4] rfl Z10x4 ?_; (with_reducible refine (spec_l1In.calls a0 0 4 true _ A3.out).mono ?_); rintro e w' ⟨rfl, ⟨nd, rfl⟩⟩; refine ⟨_, rfl, ?_⟩) | (go_at_call 42; (with_reducible refine (spec_l1In.calls a1 0 20 t384 _ A5.out).mono ?_); rintro e w' ⟨rfl, ⟨nd, rfl⟩⟩))
  go_ret
  exact ⟨by first | rfl | (simp; done) | (simp [*]; done), Z10x16⟩
 ·replace c4 := Bool.eq_false_iff.mpr c4
  subst c4
  have H1 : (some false) = some r := by rw [if_neg (show ¬ (false = true) by decide)] at H; exact H
  clear H
  have H := H1
  clear H1
  obtain rfl := Option.some.inj H
  simp only [Option.some.injEq, Prod.mk.injEq] at H
  obtain ⟨rfl⟩ := H
  go_enter Try.func72, Try.ntmps72
  go_wp2_with (first | ((with_reducible refine gate_callee (f := 42) rfl ?_); refine goesL_ (some 6) rfl rfl Try.func42 (by kernel_rfl) rfl #[.int .i64 a0, .int .i64 0, .int .i64 4] rfl Z10x4 ?_; (with_reducible refine (spec_l1In.calls a0 0 4 false _ A3.out).mono ?_); rintro e w' ⟨rfl, ⟨nd, rfl⟩⟩; refine ⟨_, rfl, ?_⟩))
  go_ret
  exact ⟨by first | rfl | (simp; done) | (simp [*]; done), Z10x16⟩

def spec_ItemOk.f (k : Nat) (a0_0 : Int) (a0_1 : Int) (a0_2 : Int) (a0_3 : Int) (a0_4 : Int) (a0_5 : Int) (a0_6 : Int) (a0_7 : Int) (l0_8 : List Int) (l0_9 : List Int) (l0_10 : List (List Int)) : Option (Bool) := (spec_l1In.f a0_0 1 60).bind fun t386 => (if t386 = true then ((spec_l1In.f a0_1 0 1).bind fun t387 => (if t387 = true then ((spec_l6Place.f a0_2 a0_3).bind fun t388 => (if t388 = true then ((spec_SketchOk.f k a0_4 a0_5 a0_6 a0_7 l0_8 l0_9 l0_10).bind fun t389 => (some t389)) else (some false))) else (some false))) else (some false))
theorem spec_ItemOk.mono : ∀ a0 a1 a2 a3 a4 a5 a6 a7 a8 a9 a10 k, LeO (spec_ItemOk.f k a0 a1 a2 a3 a4 a5 a6 a7 a8 a9 a10) (spec_ItemOk.f (k + 1) a0 a1 a2 a3 a4 a5 a6 a7 a8 a9 a10) := by
 intro a0 a1 a2 a3 a4 a5 a6 a7 a8 a9 a10 k
 unfold spec_ItemOk.f
 repeat' first
   | (with_reducible exact spec_SketchOk.mono _ _ _ _ _ _ _ _)
   | (with_reducible exact LeO.refl _)
   | (with_reducible exact LeO.none _)
   | (with_reducible refine LeO.ite ?_ ?_)
   | (with_reducible refine LeO.bind ?_ (fun _ => ?_))
   | exact spec_SketchOk.mono _ _ _ _ _ _ _ _
   | exact LeO.none _
   | refine LeO.ite ?_ ?_
   | refine LeO.bind ?_ (fun _ => ?_)
set_option maxHeartbeats 8000000 in
set_option maxRecDepth 100000 in
theorem spec_ItemOk.calls (k : Nat) (a0_0 : Int) (a0_1 : Int) (a0_2 : Int) (a0_3 : Int) (a0_4 : Int) (a0_5 : Int) (a0_6 : Int) (a0_7 : Int) (A0_8 : Option Addr) (c0_8 : Nat) (l0_8 : List Int) (A0_9 : Option Addr) (c0_9 : Nat) (l0_9 : List Int) (A0_10 : Option Addr) (c0_10 : Nat) (l0_10 : List (List Int)) (r : Bool) (w : World) (hr0_8 : Kd.C (Kd.int .i64) w A0_8 l0_8.length l0_8) (hc0_8 : l0_8.length ≤ c0_8) (hr0_9 : Kd.C (Kd.int .i64) w A0_9 l0_9.length l0_9) (hc0_9 : l0_9.length ≤ c0_9) (hr0_10 : Kd.C (Kd.slice 3 (Kd.int .i64)) w A0_10 l0_10.length l0_10) (hc0_10 : l0_10.length ≤ c0_10) (h : spec_ItemOk.f k a0_0 a0_1 a0_2 a0_3 a0_4 a0_5 a0_6 a0_7 l0_8 l0_9 l0_10 = some r) :
  Calls Try.prog 37 #[.agg #[.int .i64 a0_0, .int .i64 a0_1, .int .i64 a0_2, .int .i64 a0_3, .int .i64 a0_4, .int .i64 a0_5, .int .i64 a0_6, .int .i64 a0_7, .slice A0_8 l0_8.length c0_8, .slice A0_9 l0_9.length c0_9, .slice A0_10 l0_10.length c0_10]] w fun e w' => e = .returned (.bool r) ∧ Below w.heap.size w w' := by
 have hu29 := Try.underlying29
 have hu27 := Try.underlying27
 have HR0_8 := Aside0.mk hr0_8
 have HC0_8 := Aside0.mk hc0_8
 clear hr0_8 hc0_8
 have HR0_9 := Aside0.mk hr0_9
 have HC0_9 := Aside0.mk hc0_9
 clear hr0_9 hc0_9
 have HR0_10 := Aside0.mk hr0_10
 have HC0_10 := Aside0.mk hc0_10
 clear hr0_10 hc0_10
 have HB := Aside0.mk (Below.refl w.heap.size w)
 have H : ((spec_l1In.f a0_0 1 60).bind fun t386 => (if t386 = true then ((spec_l1In.f a0_1 0 1).bind fun t387 => (if t387 = true then ((spec_l6Place.f a0_2 a0_3).bind fun t388 => (if t388 = true then ((spec_SketchOk.f k a0_4 a0_5 a0_6 a0_7 l0_8 l0_9 l0_10).bind fun t389 => (some t389)) else (some false))) else (some false))) else (some false))) = some r := h
 clear h
 replace H := Option.bind_eq_some_iff.mp H
 obtain ⟨t386, A20, H⟩ := H
 replace H : (if t386 = true then ((spec_l1In.f a0_1 0 1).bind fun t387 => (if t387 = true then ((spec_l6Place.f a0_2 a0_3).bind fun t388 => (if t388 = true then ((spec_SketchOk.f k a0_4 a0_5 a0_6 a0_7 l0_8 l0_9 l0_10).bind fun t389 => (some t389)) else (some false))) else (some false))) else (some false)) = some r := H
 have A2 := Aside0.mk A20
 clear A20
 by_cases c3 : t386 = true
 ·subst c3
  have H1 : ((spec_l1In.f a0_1 0 1).bind fun t387 => (if t387 = true then ((spec_l6Place.f a0_2 a0_3).bind fun t388 => (if t388 = true then ((spec_SketchOk.f k a0_4 a0_5 a0_6 a0_7 l0_8 l0_9 l0_10).bind fun t389 => (some t389)) else (some false))) else (some false))) = some r := by rw [if_pos rfl] at H; exact H
  clear H
  have H := H1
  clear H1
  replace H := Option.bind_eq_some_iff.mp H
  obtain ⟨t387, A40, H⟩ := H
  replace H : (if t387 = true then ((spec_l6Place.f a0_2 a0_3).bind fun t388 => (if t388 = true then ((spec_SketchOk.f k a0_4 a0_5 a0_6 a0_7 l0_8 l0_9 l0_10).bind fun t389 => (some t389)) else (some false))) else (some false)) = some r := H
  have A4 := Aside0.mk A40
  clear A40
  by_cases c5 : t387 = true
  ·subst c5
   have H1 : ((spec_l6Place.f a0_2 a0_3).bind fun t388 => (if t388 = true then ((spec_SketchOk.f k a0_4 a0_5 a0_6 a0_7 l0_8 l0_9 l0_10).bind fun t389 => (some t389)) else (some false))) = some r := by rw [if_pos rfl] at H; exact H
   clear H
   have H := H1
   clear H1
   replace H := Option.bind_eq_some_iff.mp H
   obtain ⟨t388, A60, H⟩ := H
   replace H : (if t388 = true then ((spec_SketchOk.f k a0_4 a0_5 a0_6 a0_7 l0_8 l0_9 l0_10).bind fun t389 => (some t389)) else (some false)) = some r := H
   have A6 := Aside0.mk A60
   clear A60
   by_cases c7 : t388 = true
   ·subst c7
    have H1 : ((spec_SketchOk.f k a0_4 a0_5 a0_6 a0_7 l0_8 l0_9 l0_10).bind fun t389 => (some t389)) = some r := by rw [if_pos rfl] at H; exact H
    clear H;have H := H1;clear H1;replace H := Option.bind_eq_some_iff.mp H;obtain ⟨t389, A80, H⟩ := H;replace H : (some t389) = some r := H;have A8 := Aside0.mk A80;clear A80;obtain rfl := Option.some.inj H;simp only [Option.some.injEq, Prod.mk.injEq] at H;obtain ⟨rfl⟩ := H
    go_enter Try.func37, Try.ntmps37
    go_wp2_with (first | ((with_reducible refine gate_dst (N := 1) rfl ?_); refine box_event ?hg (N := 1) ?hd (cs := #[.int .i64 a0_0, .int .i64 a0_1, .int .i64 a0_2, .int .i64 a0_3, .int .i64 a0_4, .int .i64 a0_5, .int .i64 a0_6, .int .i64 a0_7, .slice A0_8 l0_8.length c0_8, .slice A0_9 l0_9.length c0_9, .slice A0_10 l0_10.length c0_10]) (t := 29) ?hr ?_; (case hd => rfl); (case hg => rfl); (case hr => first | (go_simp; done) | (go_simp; rfl)); intro gb385 hg w9 hbox hb; have n0_ := Aside0.mk (below_step Z10x2 hb); have n1_ := Aside0.mk (hbox); have n2_ := Aside0.mk ((Z10x15 : w.heap.size ≤ gb385)); have n3_ := Aside0.mk ((Z10x15 : w.heap.size ≤ gb385)); clear HB; have HB := n0_; have BK385 := n1_; have GW385 := n2_; have GE385 := n3_; clear n0_ n1_ n2_ n3_; clear hb hbox hg; obtain ⟨hcz10_0, hcz10_1, hcz10_2, hcz10_3, hcz10_4, hcz10_5, hcz10_6, hcz10_7, hcz10_8, hcz10_9, hcz10_10⟩ := cz11 BK385.out; obtain ⟨hfz10_0, hfz10_1, hfz10_2, hfz10_3, hfz10_4, hfz10_5, hfz10_6, hfz10_7, hfz10_8, hfz10_9, hfz10_10⟩ := fz11 BK385.out) | ((with_reducible refine gate_callee (f := 42) rfl ?_); refine goesL_ (some 5) rfl rfl Try.func42 (by kernel_rfl) rfl #[.int .i64 a0_0, .int .i64 1, .int .i64 60] rfl Z10x4 ?_; (with_reducible refine (spec_l1In.calls a0_0 1 60 true _ A2.out).mono ?_); rintro e w' ⟨rfl, ⟨nd, rfl⟩⟩; refine ⟨_, rfl, ?_⟩) | (go_at_call 42; (with_reducible refine (spec_l1In.calls a0_1 0 1 true _ A4.out).mono ?_); rintro e w' ⟨rfl, ⟨nd, rfl⟩⟩) | (go_at_call 72; (with_reducible refine (spec_l6Place.calls a0_2 a0_3 true _ A6.out).mono ?_); rintro e w' ⟨rfl, ⟨nd, rfl⟩⟩) | (go_at_call 73; (with_reducible refine (spec_SketchOk.calls k a0_4 a0_5 a0_6 a0_7 _ _ l0_8 _ _ l0_9 _ _ l0_10 t389 _ ?side1 ?side2 ?side3 ?side4 ?side5 ?side6 A8.out).mono ?_); (case side1 => repeat (first | exact (Kd.C_below HR0_8.out Z10x7) | (with_reducible refine Kd.C_alloc ?_ _) | (with_reducible refine Kd.C_drewN ?_ _) | (with_reducible refine Kd.C_drew ?_))); (case side2 => exact HC0_8.out); (case side3 => repeat (first | exact (Kd.C_below HR0_9.out Z10x7) | (with_reducible refine Kd.C_alloc ?_ _) | (with_reducible refine Kd.C_drewN ?_ _) | (with_reducible refine Kd.C_drew ?_))); (case side4 => exact HC0_9.out); (case side5 => repeat (first | exact (Kd.C_below HR0_10.out Z10x7) | (with_reducible refine Kd.C_alloc ?_ _) | (with_reducible refine Kd.C_drewN ?_ _) | (with_reducible refine Kd.C_drew ?_))); (case side6 => exact HC0_10.out); rintro e w11 ⟨rfl, hb⟩; have n0_ := Aside0.mk (blk_below (g := gb385) (o := .cells #[.int .i64 a0_0, .int .i64 a0_1, .int .i64 a0_2, .int .i64 a0_3, .int .i64 a0_4, .int .i64 a0_5, .int .i64 a0_6, .int .i64 a0_7, .slice A0_8 l0_8.length c0_8, .slice A0_9 l0_9.length c0_9, .slice A0_10 l0_10.length c0_10] 29 (0, 0)) (by (with_reducible repeat (first | refine blk_drewN ?_ _ | refine blk_drew ?_ | refine blk_alloc ?_ _)); exact BK385.out) hb); have n1_ := Aside0.mk (below_step Z10x7 hb); clear BK385; clear HB; have BK385 := n0_; have HB := n1_; clear n0_ n1_; (try clear hb); (try clear hb2); (try clear hk); (try clear hi)))
    go_ret
    exact ⟨Z10x11, Z10x7⟩
   ·replace c7 := Bool.eq_false_iff.mpr c7
    subst c7
    have H1 : (some false) = some r := by rw [if_neg (show ¬ (false = true) by decide)] at H; exact H
    clear H;have H := H1;clear H1;obtain rfl := Option.some.inj H;simp only [Option.some.injEq, Prod.mk.injEq] at H;obtain ⟨rfl⟩ := H
    go_enter Try.func37, Try.ntmps37
    go_wp2_with (first | ((with_reducible refine gate_dst (N := 1) rfl ?_); refine box_event ?hg (N := 1) ?hd (cs := #[.int .i64 a0_0, .int .i64 a0_1, .int .i64 a0_2, .int .i64 a0_3, .int .i64 a0_4, .int .i64 a0_5, .int .i64 a0_6, .int .i64 a0_7, .slice A0_8 l0_8.length c0_8, .slice A0_9 l0_9.length c0_9, .slice A0_10 l0_10.length c0_10]) (t := 29) ?hr ?_; (case hd => rfl); (case hg => rfl); (case hr => first | (go_simp; done) | (go_simp; rfl)); intro gb385 hg w12 hbox hb; have n0_ := Aside0.mk (below_step Z10x2 hb); have n1_ := Aside0.mk (hbox); have n2_ := Aside0.mk ((Z10x15 : w.heap.size ≤ gb385)); have n3_ := Aside0.mk ((Z10x15 : w.heap.size ≤ gb385)); clear HB; have HB := n0_; have BK385 := n1_; have GW385 := n2_; have GE385 := n3_; clear n0_ n1_ n2_ n3_; clear hb hbox hg; obtain ⟨hcz13_0, hcz13_1, hcz13_2, hcz13_3, hcz13_4, hcz13_5, hcz13_6, hcz13_7, hcz13_8, hcz13_9, hcz13_10⟩ := cz11 BK385.out; obtain ⟨hfz13_0, hfz13_1, hfz13_2, hfz13_3, hfz13_4, hfz13_5, hfz13_6, hfz13_7, hfz13_8, hfz13_9, hfz13_10⟩ := fz11 BK385.out) | ((with_reducible refine gate_callee (f := 42) rfl ?_); refine goesL_ (some 5) rfl rfl Try.func42 (by kernel_rfl) rfl #[.int .i64 a0_0, .int .i64 1, .int .i64 60] rfl Z10x4 ?_; (with_reducible refine (spec_l1In.calls a0_0 1 60 true _ A2.out).mono ?_); rintro e w' ⟨rfl, ⟨nd, rfl⟩⟩; refine ⟨_, rfl, ?_⟩) | (go_at_call 42; (with_reducible refine (spec_l1In.calls a0_1 0 1 true _ A4.out).mono ?_); rintro e w' ⟨rfl, ⟨nd, rfl⟩⟩) | (go_at_call 72; (with_reducible refine (spec_l6Place.calls a0_2 a0_3 false _ A6.out).mono ?_); rintro e w' ⟨rfl, ⟨nd, rfl⟩⟩))
    go_ret
    exact ⟨Z10x11, Z10x7⟩
  ·replace c5 := Bool.eq_false_iff.mpr c5
   subst c5
   have H1 : (some false) = some r := by rw [if_neg (show ¬ (false = true) by decide)] at H; exact H
   clear H
   have H := H1
   clear H1
   obtain rfl := Option.some.inj H
   simp only [Option.some.injEq, Prod.mk.injEq] at H
   obtain ⟨rfl⟩ := H
   go_enter Try.func37, Try.ntmps37
   go_wp2_with (first | ((with_reducible refine gate_dst (N := 1) rfl ?_); refine box_event ?hg (N := 1) ?hd (cs := #[.int .i64 a0_0, .int .i64 a0_1, .int .i64 a0_2, .int .i64 a0_3, .int .i64 a0_4, .int .i64 a0_5, .int .i64 a0_6, .int .i64 a0_7, .slice A0_8 l0_8.length c0_8, .slice A0_9 l0_9.length c0_9, .slice A0_10 l0_10.length c0_10]) (t := 29) ?hr ?_; (case hd => rfl); (case hg => rfl); (case hr => first | (go_simp; done) | (go_simp; rfl)); intro gb385 hg w14 hbox hb; have n0_ := Aside0.mk (below_step Z10x2 hb); have n1_ := Aside0.mk (hbox); have n2_ := Aside0.mk ((Z10x15 : w.heap.size ≤ gb385)); have n3_ := Aside0.mk ((Z10x15 : w.heap.size ≤ gb385)); clear HB; have HB := n0_; have BK385 := n1_; have GW385 := n2_; have GE385 := n3_; clear n0_ n1_ n2_ n3_; clear hb hbox hg; obtain ⟨hcz15_0, hcz15_1, hcz15_2, hcz15_3, hcz15_4, hcz15_5, hcz15_6, hcz15_7, hcz15_8, hcz15_9, hcz15_10⟩ := cz11 BK385.out; obtain ⟨hfz15_0, hfz15_1, hfz15_2, hfz15_3, hfz15_4, hfz15_5, hfz15_6, hfz15_7, hfz15_8, hfz15_9, hfz15_10⟩ := fz11 BK385.out) | ((with_reducible refine gate_callee (f := 42) rfl ?_); refine goesL_ (some 5) rfl rfl Try.func42 (by kernel_rfl) rfl #[.int .i64 a0_0, .int .i64 1, .int .i64 60] rfl Z10x4 ?_; (with_reducible refine (spec_l1In.calls a0_0 1 60 true _ A2.out).mono ?_); rintro e w' ⟨rfl, ⟨nd, rfl⟩⟩; refine ⟨_, rfl, ?_⟩) | (go_at_call 42; (with_reducible refine (spec_l1In.calls a0_1 0 1 false _ A4.out).mono ?_); rintro e w' ⟨rfl, ⟨nd, rfl⟩⟩))
   go_ret
   exact ⟨Z10x11, Z10x7⟩
 ·replace c3 := Bool.eq_false_iff.mpr c3
  subst c3
  have H1 : (some false) = some r := by rw [if_neg (show ¬ (false = true) by decide)] at H; exact H
  clear H
  have H := H1
  clear H1
  obtain rfl := Option.some.inj H
  simp only [Option.some.injEq, Prod.mk.injEq] at H
  obtain ⟨rfl⟩ := H
  go_enter Try.func37, Try.ntmps37
  go_wp2_with (first | ((with_reducible refine gate_dst (N := 1) rfl ?_); refine box_event ?hg (N := 1) ?hd (cs := #[.int .i64 a0_0, .int .i64 a0_1, .int .i64 a0_2, .int .i64 a0_3, .int .i64 a0_4, .int .i64 a0_5, .int .i64 a0_6, .int .i64 a0_7, .slice A0_8 l0_8.length c0_8, .slice A0_9 l0_9.length c0_9, .slice A0_10 l0_10.length c0_10]) (t := 29) ?hr ?_; (case hd => rfl); (case hg => rfl); (case hr => first | (go_simp; done) | (go_simp; rfl)); intro gb385 hg w16 hbox hb; have n0_ := Aside0.mk (below_step Z10x2 hb); have n1_ := Aside0.mk (hbox); have n2_ := Aside0.mk ((Z10x15 : w.heap.size ≤ gb385)); have n3_ := Aside0.mk ((Z10x15 : w.heap.size ≤ gb385)); clear HB; have HB := n0_; have BK385 := n1_; have GW385 := n2_; have GE385 := n3_; clear n0_ n1_ n2_ n3_; clear hb hbox hg; obtain ⟨hcz17_0, hcz17_1, hcz17_2, hcz17_3, hcz17_4, hcz17_5, hcz17_6, hcz17_7, hcz17_8, hcz17_9, hcz17_10⟩ := cz11 BK385.out; obtain ⟨hfz17_0, hfz17_1, hfz17_2, hfz17_3, hfz17_4, hfz17_5, hfz17_6, hfz17_7, hfz17_8, hfz17_9, hfz17_10⟩ := fz11 BK385.out) | ((with_reducible refine gate_callee (f := 42) rfl ?_); refine goesL_ (some 5) rfl rfl Try.func42 (by kernel_rfl) rfl #[.int .i64 a0_0, .int .i64 1, .int .i64 60] rfl Z10x4 ?_; (with_reducible refine (spec_l1In.calls a0_0 1 60 false _ A2.out).mono ?_); rintro e w' ⟨rfl, ⟨nd, rfl⟩⟩; refine ⟨_, rfl, ?_⟩))
  go_ret
  exact ⟨Z10x11, Z10x7⟩

end Go.Proofs.Ytdciagkholijlaa.PFnItems
