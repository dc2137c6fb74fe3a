-- Written by this session's changed copy of the kit's printer (wip/patch_print.py): not the kit's own print.
import Derived.Test.YtfknjoebomicnaaPFnMergedx0
import Derived.Test.YtfknjoebomicnaaPFnMergedx2
namespace Go.Proofs.Ytfknjoebomicnaa.PFnMerged
open Go.RowKit Go.Proofs.YtfknjoebomicnaaW.PrintWords Go.Proofs.YtfknjoebomicnaaW.PrintLast Go.Proofs.YtfknjoebomicnaaW.PrintMore
attribute [local go_sem] max2_int min2_int max_two min_two max_three min_three max_four min_four   -- for this text's walks alone
set_option linter.unusedVariables false
set_option linter.unusedSimpArgs false
theorem Z3x0 {p : Prop} (h : p := by (with_reducible repeat (first | refine blk_drewN ?_ _ | refine blk_drew ?_ | refine blk_alloc ?_ _)); exact BK129.out) : p := h
theorem Z3x1 {p : Prop} (h : p := by repeat (first | (with_reducible first | exact HB.out | apply below_alloc | apply pw_below_drewN | apply below_drew1 | refine below_set ?_ GE129.out | refine below_set ?_ GE130.out | refine below_set ?_ GE131.out) | exact HB.out)) : p := h
theorem Z3x2 {p : Prop} (h : p := by repeat (first | (with_reducible first | exact HB.out | apply below_alloc | apply pw_below_drewN | apply below_drew1) | exact HB.out)) : p := h
theorem Z3x3 {p : Prop} (h : p := by (with_reducible repeat (first | refine blk_drewN ?_ _ | refine blk_drew ?_ | refine blk_alloc ?_ _)); refine blk_put (cs := #[.int .i64 0, .int .i64 0, .int .i64 0, .int .i64 0, .slice none 0 0, .slice none 0 0, .slice none 0 0]) ?_ 6 _ rfl; (with_reducible repeat (first | refine blk_drewN ?_ _ | refine blk_drew ?_ | refine blk_alloc ?_ _)); refine blk_put (cs := #[.int .i64 0, .int .i64 0, .int .i64 0, .int .i64 0, .slice none 0 0, .slice none 0 0, .slice none 0 0]) ?_ 5 _ rfl; (with_reducible repeat (first | refine blk_drewN ?_ _ | refine blk_drew ?_ | refine blk_alloc ?_ _)); refine blk_put (cs := #[.int .i64 0, .int .i64 0, .int .i64 0, .int .i64 0, .slice none 0 0, .slice none 0 0, .slice none 0 0]) ?_ 4 _ rfl; (with_reducible repeat (first | refine blk_drewN ?_ _ | refine blk_drew ?_ | refine blk_alloc ?_ _)); refine blk_put (cs := #[.int .i64 0, .int .i64 0, .int .i64 0, .int .i64 0, .slice none 0 0, .slice none 0 0, .slice none 0 0]) ?_ 3 _ rfl; (with_reducible repeat (first | refine blk_drewN ?_ _ | refine blk_drew ?_ | refine blk_alloc ?_ _)); refine blk_put (cs := #[.int .i64 0, .int .i64 0, .int .i64 0, .int .i64 0, .slice none 0 0, .slice none 0 0, .slice none 0 0]) ?_ 2 _ rfl; (with_reducible repeat (first | refine blk_drewN ?_ _ | refine blk_drew ?_ | refine blk_alloc ?_ _)); refine blk_put (cs := #[.int .i64 0, .int .i64 0, .int .i64 0, .int .i64 0, .slice none 0 0, .slice none 0 0, .slice none 0 0]) ?_ 1 _ rfl; (with_reducible repeat (first | refine blk_drewN ?_ _ | refine blk_drew ?_ | refine blk_alloc ?_ _)); refine blk_put (cs := #[.int .i64 0, .int .i64 0, .int .i64 0, .int .i64 0, .slice none 0 0, .slice none 0 0, .slice none 0 0]) ?_ 0 _ rfl; (with_reducible repeat (first | refine blk_drewN ?_ _ | refine blk_drew ?_ | refine blk_alloc ?_ _)); exact BK131.out) : p := h
theorem Z3x4 {p : Prop} (h : p := by (with_reducible repeat (first | refine blk_drewN ?_ _ | refine blk_drew ?_ | refine blk_alloc ?_ _)); exact BK130.out) : p := h
theorem Z3x5 {p : Prop} (h : p := by repeat (first | (with_reducible first | exact HB.out | apply below_alloc | apply pw_below_drewN | apply below_drew1 | refine below_set ?_ GE129.out | refine below_set ?_ GE130.out) | exact HB.out)) : p := h
theorem Z3x6 {p : Prop} (h : p := by repeat (first | (with_reducible first | exact HB.out | apply below_alloc | apply pw_below_drewN | apply below_drew1 | refine below_set ?_ GE129.out) | exact HB.out)) : p := h
theorem Z3x7 {p : Prop} (h : p := by rw [hg]; exact Nat.ne_of_lt (blk_lt (g := gb129) (o := .cells #[.int .i64 a0_0, .int .i64 a0_1, .int .i64 a0_2, .int .i64 a0_3, .slice A0_4 l0_4.length c0_4, .slice A0_5 l0_5.length c0_5, .slice A0_6 l0_6.length c0_6] 26 (0, 0)) Z3x0)) : p := h
theorem Z3x8 {p : Prop} (h : p := by rw [hg]; exact Nat.ne_of_gt (blk_lt (g := gb129) (o := .cells #[.int .i64 a0_0, .int .i64 a0_1, .int .i64 a0_2, .int .i64 a0_3, .slice A0_4 l0_4.length c0_4, .slice A0_5 l0_5.length c0_5, .slice A0_6 l0_6.length c0_6] 26 (0, 0)) Z3x0)) : p := h
theorem Z3x9 {p : Prop} (h : p := by (try simp only [List.map_toArray, List.map_cons, List.map_nil]); first | done | rfl | (simp only [List.length_drop, List.length_take]; rfl)) : p := h
theorem Z3x10 {p : Prop} (h : p := by (with_reducible repeat (first | refine blk_drewN ?_ _ | refine blk_drew ?_ | refine blk_alloc ?_ _)); exact BK131.out) : p := h
theorem Z3x11 {p : Prop} (h : p := by repeat (first | exact (Kd.C_below HR0_4.out HB.out) | (with_reducible refine Kd.C_alloc ?_ _) | (with_reducible refine Kd.C_drewN ?_ _) | (with_reducible refine Kd.C_drew ?_))) : p := h
theorem Z3x12 {p : Prop} (h : p := by repeat (first | exact (Kd.C_below HR0_5.out HB.out) | (with_reducible refine Kd.C_alloc ?_ _) | (with_reducible refine Kd.C_drewN ?_ _) | (with_reducible refine Kd.C_drew ?_))) : p := h
theorem Z3x13 {p : Prop} (h : p := by repeat (first | exact (Kd.C_below HR0_6.out HB.out) | (with_reducible refine Kd.C_alloc ?_ _) | (with_reducible refine Kd.C_drewN ?_ _) | (with_reducible refine Kd.C_drew ?_))) : p := h
theorem Z3x14 {p : Prop} (h : p := by rw [hg]; exact Nat.ne_of_lt (blk_lt (g := gb130) (o := .cells #[.int .i64 a1_0, .int .i64 a1_1, .int .i64 a1_2, .int .i64 a1_3, .slice A1_4 l1_4.length c1_4, .slice A1_5 l1_5.length c1_5, .slice A1_6 l1_6.length c1_6] 26 (0, 0)) Z3x4)) : p := h
theorem Z3x15 {p : Prop} (h : p := by rw [hg]; exact Nat.ne_of_gt (blk_lt (g := gb130) (o := .cells #[.int .i64 a1_0, .int .i64 a1_1, .int .i64 a1_2, .int .i64 a1_3, .slice A1_4 l1_4.length c1_4, .slice A1_5 l1_5.length c1_5, .slice A1_6 l1_6.length c1_6] 26 (0, 0)) Z3x4)) : p := h
theorem Z3x16 {p : Prop} (h : p := by first | exact Kd.R_nil _ _ _ _ _ | exact Kd.N_nil _ _ _ _ _ | exact Kd.V_nil _ _ _ _ _ | exact Kd.Q_nil _ _ _ _ _ | exact Kd.S_nil _ _ _ _ _) : p := h
theorem Z3x17 {p : Prop} (h : p := by repeat (first | exact (Kd.C_below HR1_4.out HB.out) | (with_reducible refine Kd.C_alloc ?_ _) | (with_reducible refine Kd.C_drewN ?_ _) | (with_reducible refine Kd.C_drew ?_))) : p := h
theorem Z3x18 {p : Prop} (h : p := by repeat (first | exact (Kd.C_below HR1_5.out HB.out) | (with_reducible refine Kd.C_alloc ?_ _) | (with_reducible refine Kd.C_drewN ?_ _) | (with_reducible refine Kd.C_drew ?_))) : p := h
theorem Z3x19 {p : Prop} (h : p := by repeat (first | exact (Kd.C_below HR1_6.out HB.out) | (with_reducible refine Kd.C_alloc ?_ _) | (with_reducible refine Kd.C_drewN ?_ _) | (with_reducible refine Kd.C_drew ?_))) : p := h
theorem Z3x20 {p : Prop} (h : p := by first | rfl | (simp [errW_none, errW_some] <;> rfl) | (simp [*, errW_none, errW_some] <;> rfl)) : p := h

def spec_Add.f (a0 : Int) (a1 : Int) : Option (Int) := (spec_l2Clip.f a0 1000000000).bind fun t117 => ((spec_l2Clip.f a1 1000000000).bind fun t118 => ((spec_l1Min.f (wrap64 (t117 + t118)) 1000000000).bind fun t119 => (some t119)))
set_option maxHeartbeats 8000000 in
set_option maxRecDepth 100000 in
theorem spec_Add.calls (a0 : Int) (a1 : Int) (r : Int) (w : World) (h : spec_Add.f a0 a1 = some r) :
  Calls Try.prog 84 #[.int .i64 a0, .int .i64 a1] w fun e w' => e = .returned (.int .i64 r) ∧ Drawn0 w w' := by
 have H : ((spec_l2Clip.f a0 1000000000).bind fun t117 => ((spec_l2Clip.f a1 1000000000).bind fun t118 => ((spec_l1Min.f (wrap64 (t117 + t118)) 1000000000).bind fun t119 => (some t119)))) = some r := h
 clear h
 replace H := Option.bind_eq_some_iff.mp H
 obtain ⟨t117, A30, H⟩ := H
 replace H : ((spec_l2Clip.f a1 1000000000).bind fun t118 => ((spec_l1Min.f (wrap64 (t117 + t118)) 1000000000).bind fun t119 => (some t119))) = some r := H
 have A3 := Aside0.mk A30
 clear A30
 replace H := Option.bind_eq_some_iff.mp H
 obtain ⟨t118, A40, H⟩ := H
 replace H : ((spec_l1Min.f (wrap64 (t117 + t118)) 1000000000).bind fun t119 => (some t119)) = some r := H
 have A4 := Aside0.mk A40
 clear A40
 replace H := Option.bind_eq_some_iff.mp H
 obtain ⟨t119, A50, H⟩ := H
 replace H : (some t119) = some r := H
 have A5 := Aside0.mk A50
 clear A50
 obtain rfl := Option.some.inj H
 simp only [Option.some.injEq, Prod.mk.injEq] at H
 obtain ⟨rfl⟩ := H
 go_enter Try.func84, Try.ntmps84
 go_wp2_with (first | ((with_reducible refine gate_callee (f := 102) rfl ?_); refine goesL_ (some 6) rfl rfl Try.func102 (by kernel_rfl) rfl #[.int .i64 a0, .int .i64 1000000000] rfl Z3x9 ?_; (with_reducible refine (spec_l2Clip.calls a0 1000000000 t117 _ A3.out).mono ?_); rintro e w' ⟨rfl, ⟨nd, rfl⟩⟩; refine ⟨_, rfl, ?_⟩) | ((with_reducible refine gate_callee (f := 102) rfl ?_); refine goesL_ (some 8) rfl rfl Try.func102 (by kernel_rfl) rfl #[.int .i64 a1, .int .i64 1000000000] rfl Z3x9 ?_; (with_reducible refine (spec_l2Clip.calls a1 1000000000 t118 _ A4.out).mono ?_); rintro e w' ⟨rfl, ⟨nd, rfl⟩⟩; refine ⟨_, rfl, ?_⟩) | ((with_reducible refine gate_callee (f := 85) rfl ?_); refine goesL_ (some 10) rfl rfl Try.func85 (by kernel_rfl) rfl #[.int .i64 (wrap64 (t117 + t118)), .int .i64 1000000000] rfl Z3x9 ?_; (with_reducible refine (spec_l1Min.calls (wrap64 (t117 + t118)) 1000000000 t119 _ A5.out).mono ?_); rintro e w' ⟨rfl, ⟨nd, rfl⟩⟩; refine ⟨_, rfl, ?_⟩))
 go_ret
 exact ⟨by first | rfl | (simp; done) | (simp [*]; done), by repeat (first | exact Drawn0.refl _ | apply Drawn0.step)⟩

def spec_l3Sum.l0 : Nat → List Int → List Int → List Int → Int → Option (List Int)
 | 0, _, _, _, _ => none
 | k + 1, x0, x1, x5, x6 => if x6 < (x0.length : Int) then (if 0 ≤ x6 then (if x6 < (x1.length : Int) then ((spec_Add.f (rd x0 x6) (rd x1 x6)).bind fun t125 => (if x5.length < 17592186044416 then (spec_l3Sum.l0 k x0 x1 (x5 ++ [t125]) (wrap64 (x6 + 1))) else (none))) else (none)) else (none)) else (some x5)
def spec_l3Sum.f (k : Nat) (l0 : List Int) (l1 : List Int) : Option (List Int) := spec_l3Sum.l0 k l0 l1 (([] : List Int)) 0
theorem spec_l3Sum.mono_l : ∀ k, (∀ y0 y1 y2 y3, LeO (spec_l3Sum.l0 k y0 y1 y2 y3) (spec_l3Sum.l0 (k + 1) y0 y1 y2 y3))
 | 0 => fun _ _ _ _ r h => by simp [spec_l3Sum.l0] at h
 | k + 1 => by
  have ih0 := spec_l3Sum.mono_l k
  ·intro y0 y1 y2 y3
   unfold spec_l3Sum.l0
   repeat' first
   | (with_reducible exact ih0 _ _ _ _)
   | (with_reducible exact LeO.refl _)
   | (with_reducible exact LeO.none _)
   | (with_reducible refine LeO.ite ?_ ?_)
   | (with_reducible refine LeO.bind ?_ (fun _ => ?_))
   | exact ih0 _ _ _ _
   | exact LeO.none _
   | refine LeO.ite ?_ ?_
   | refine LeO.bind ?_ (fun _ => ?_)
theorem spec_l3Sum.mono : ∀ a0 a1 k, LeO (spec_l3Sum.f k a0 a1) (spec_l3Sum.f (k + 1) a0 a1) := by
 intro a0 a1 k
 have ih0 := spec_l3Sum.mono_l k
 unfold spec_l3Sum.f
 repeat' first
   | (with_reducible exact ih0 _ _ _ _)
   | (with_reducible exact LeO.refl _)
   | (with_reducible exact LeO.none _)
   | (with_reducible refine LeO.ite ?_ ?_)
   | (with_reducible refine LeO.bind ?_ (fun _ => ?_))
   | exact ih0 _ _ _ _
   | exact LeO.none _
   | refine LeO.ite ?_ ?_
   | refine LeO.bind ?_ (fun _ => ?_)
def spec_l3Sum.T5 : Bool × List (List Nat × List Nat) := (true, [([], []), ([], []), ([], []), ([1, 2], [1, 2]), ([3], [3]), ([], []), ([], []), ([5, 6], [5, 6]), ([7], [7]), ([4, 8], [4, 8]), ([9], [9]), ([0, 10, 9], [0, 10]), ([11, 11, 0, 1, 2, 3, 4, 5, 6, 7, 8, 9, 10, 11], [0, 11])])
def spec_l3Sum.B5 : List Nat := [0, 0, 0, 6, 14, 0, 0, 96, 224, 510, 1022, 2047, 4095]
theorem spec_l3Sum.tab5 : rtab .any (opsOf Try.f87 5) = spec_l3Sum.T5 := by kernel_rfl
theorem spec_l3Sum.bits5 : waitsOk spec_l3Sum.T5.2 spec_l3Sum.B5 = true := by kernel_rfl
set_option maxHeartbeats 8000000 in
set_option maxRecDepth 100000 in
theorem spec_l3Sum.calls (k : Nat) (A0 : Option Addr) (c0 : Nat) (l0 : List Int) (A1 : Option Addr) (c1 : Nat) (l1 : List Int) (r : List Int) (w : World) (hr0 : Kd.C (Kd.int .i64) w A0 l0.length l0) (hc0 : l0.length ≤ c0) (hr1 : Kd.C (Kd.int .i64) w A1 l1.length l1) (hc1 : l1.length ≤ c1) (h : spec_l3Sum.f k l0 l1 = some r) :
  Calls Try.prog 87 #[.slice A0 l0.length c0, .slice A1 l1.length c1] w fun e w' => ∃ v0_ : Value, e = .returned (v0_) ∧ Kd.R (Kd.int .i64) 3 w' w.heap.size (fun _ => True) v0_ r ∧ Below w.heap.size w w' := by
 have HR0 := Aside0.mk hr0
 have HC0 := Aside0.mk hc0
 clear hr0 hc0
 have HR1 := Aside0.mk hr1
 have HC1 := Aside0.mk hc1
 clear hr1 hc1
 have HB := Aside0.mk (Below.refl w.heap.size w)
 have H : (spec_l3Sum.l0 k l0 l1 (([] : List Int)) 0) = some r := h
 clear h
 obtain ⟨y120, hy120⟩ : ∃ y_ : List Int, y_ = (([] : List Int)) := ⟨_, rfl⟩
 replace H : (spec_l3Sum.l0 k l0 l1 y120 0) = some r := by first | (rw [hy120]; with_reducible exact H) | (have H2_ := (Option.bind_some _ _).symm.trans H; rw [hy120]; with_reducible exact H2_) | (have H2_ := (Option.bind_some _ _).symm.trans H; with_reducible exact H2_) | with_reducible exact H | (rw [hy120]; exact H) | exact H
 have Ny120 := Aside0.mk hy120
 clear hy120
 have H' := Aside0.mk H
 clear H
 go_enter Try.func87, Try.ntmps87
 go_wp2_with (first | ((with_reducible refine gate_dst (N := 7) rfl ?_); refine Kd.R_lit (Kd.int .i64) _ 3 ?hg (N := 7) ?hd (xs := ([] : List Int)) (inner := []) (ok := fun _ => True) (okp := fun _ => True) ?hr ?hp (fun _ hk => hk) trivial (Below.refl _ _) (Nat.le_refl _) (by simp) ?_; (case hd => rfl); (case hg => rfl); (case hr => first | (go_simp; done) | (go_simp; rfl)); (case hp => exact (Reps.none _ _)); intro v121 w3 ho4 hb hg_ hnew_; clear hg_ hnew_; (first | rw [← Ny120.out] at ho4 | (simp only [Int.reduceToNat] at ho4; rw [← Ny120.out] at ho4)); have n0_ := Aside0.mk (Kd.R_lower ho4 (below_size Z3x2)); have n1_ := Aside0.mk (below_step Z3x2 hb); clear HB; have HO122 := n0_; have HB := n1_; clear n0_ n1_; clear hb ho4))
 go_loopg [5, 6] k (fun kq v5 v6 w' => ∃ (x5_1 : List Int) (x6_1 : Int), v6 = .int .i64 x6_1 ∧ Aside0 (spec_l3Sum.l0 kq l0 l1 x5_1 x6_1 = some r) ∧ Aside0 (kq ≤ k) ∧ Aside0 (Kd.R (Kd.int .i64) 3 w' w.heap.size (fun _ => True) v5 x5_1) ∧ Aside0 (Below w.heap.size w w'))
 case atStart => exact ⟨(y120), (0), (by first | rfl | (simp; done) | (simp [*]; done)), H', ⟨Nat.le_refl _⟩, ⟨by (with_reducible repeat (first | apply Kd.R_alloc | apply Kd.R_drewN | apply Kd.R_drew)); exact HO122.out⟩, ⟨Z3x2⟩⟩
 case round =>
  clear H'
  try clear c1
  try clear p2
  obtain ⟨x5_1, x6_1, rfl, HA, HK1, HO_5, HB⟩ := hrel
  cases gk with
  | zero => exact absurd HA.out (by simp [spec_l3Sum.l0])
  | succ k1 =>
   have H := HA.out
   clear HA
   simp only [spec_l3Sum.l0] at H
   by_cases c5 : x6_1 < (l0.length : Int)
   ·rw [if_pos c5] at H
    have c5b0 : decide (x6_1 < (l0.length : Int)) = true := decide_eq_true c5;clear c5
    by_cases c6 : 0 ≤ x6_1
    ·rw [if_pos c6] at H
     have c6b0 : decide (0 ≤ x6_1) = true := decide_eq_true c6;clear c6
     by_cases c7 : x6_1 < (l1.length : Int)
     ·rw [if_pos c7] at H
      have c7b0 : decide (x6_1 < (l1.length : Int)) = true := decide_eq_true c7;clear c7;replace H := Option.bind_eq_some_iff.mp H;obtain ⟨t125, A80, H⟩ := H;replace H : (if x5_1.length < 17592186044416 then (spec_l3Sum.l0 k1 l0 l1 (x5_1 ++ [t125]) (wrap64 (x6_1 + 1))) else (none)) = some r := H;have A8 := Aside0.mk A80;clear A80
      by_cases c9 : x5_1.length < 17592186044416
      ·rw [if_pos c9] at H
       have LMc9 := Aside0.mk c9;clear c9;obtain ⟨y126, hy126⟩ : ∃ y_ : List Int, y_ = (x5_1 ++ [t125]) := ⟨_, rfl⟩
       replace H : (spec_l3Sum.l0 k1 l0 l1 y126 (wrap64 (x6_1 + 1))) = some r := by first | (rw [hy126]; with_reducible exact H) | (have H2_ := (Option.bind_some _ _).symm.trans H; rw [hy126]; with_reducible exact H2_) | (have H2_ := (Option.bind_some _ _).symm.trans H; with_reducible exact H2_) | with_reducible exact H | (rw [hy126]; exact H) | exact H
       have Ny126 := Aside0.mk hy126;clear hy126;have H' := Aside0.mk H;clear H
       try go_wp2
       have n0_ := Aside0.mk (Kd.R_drew HO_5.out);have n1_ := Aside0.mk (below_drew1 HB.out);clear HO_5;clear HB;have HO_5 := n0_;have HB := n1_;clear n0_ n1_;have p123 : 0 ≤ (x6_1 : Int) := of_decide_eq_true (by first | (with_reducible assumption) | assumption);have q123 : x6_1 < (l0.length : Int) := of_decide_eq_true (by first | (with_reducible assumption) | assumption);obtain ⟨ad123, e123, hx123_0⟩ := Kd.at_int HR0.out x6_1 p123 q123;have hw123_0 := hx123_0
       cases e123
       replace hx123_0 := czB HB.out hx123_0;replace p123 := eq_true p123;replace q123 := eq_true q123;have p124 : 0 ≤ (x6_1 : Int) := of_decide_eq_true (by first | (with_reducible assumption) | assumption);have q124 : x6_1 < (l1.length : Int) := of_decide_eq_true (by first | (with_reducible assumption) | assumption);obtain ⟨ad124, e124, hx124_0⟩ := Kd.at_int HR1.out x6_1 p124 q124;have hw124_0 := hx124_0
       cases e124
       replace hx124_0 := czB HB.out hx124_0;replace p124 := eq_true p124;replace q124 := eq_true q124;refine start_ (n := 13) (S := fun w' => w'.cell? (ad123.add (x6_1).toNat) = some (.int .i64 (rd l0 x6_1)) ∧ w'.cell? (ad124.add (x6_1).toNat) = some (.int .i64 (rd l1 x6_1))) (ds := []) #[false, false, false, false, false, false, false, false, false, false, false, false, false] (by kernel_rfl) rfl rfl ⟨((HB.out.cell (World.block_lt_of_cell? w _ hw123_0)).trans hw123_0), ((HB.out.cell (World.block_lt_of_cell? w _ hw124_0)).trans hw124_0)⟩ (fun hHeld => ?_); refine with_tabW spec_l3Sum.tab5 spec_l3Sum.bits5 (fun HT_ HW_ => ?_);generalize wr.drew = w10 at HO_5 HB hx123_0 hx124_0 hHeld ⊢;refine pure_ (i := 0) (N := some 14) (v := ?_) (a' := ?_) #[true, false, false, false, false, false, false, false, false, false, false, false, false] rfl rfl (any_of HT_.out (by kernel_rfl)) (fun _ _ _ h => h) (Or.inl ⟨by rfl, ?_⟩) ?_ ?_
       rotate_left
       ·intro w'
        go_simp
        with_reducible rfl
       rotate_left
       ·simp only [czP]
        rfl
       refine pure_ (i := 1) (N := some 15) (v := ?_) (a' := ?_) #[true, true, false, false, false, false, false, false, false, false, false, false, false] rfl rfl (any_of HT_.out (by kernel_rfl)) (fun _ _ _ h => h) (Or.inl ⟨by rfl, ?_⟩) ?_ ?_
       rotate_left
       ·intro w'
        go_simp
        with_reducible rfl
       rotate_left
       ·simp only [czP]
        rfl
       refine pure_ (i := 2) (N := some 16) (v := ?_) (a' := ?_) #[true, true, true, false, false, false, false, false, false, false, false, false, false] rfl rfl (any_of HT_.out (by kernel_rfl)) (fun _ _ _ h => h) (Or.inl ⟨by rfl, ?_⟩) ?_ ?_
       rotate_left
       ·intro w'
        go_simp
        with_reducible rfl
       rotate_left
       ·simp only [czP]
        rfl
       refine pure_ (i := 3) (N := some 17) (v := ?_) (a' := ?_) #[true, true, true, true, false, false, false, false, false, false, false, false, false] rfl rfl (any_of HT_.out (by kernel_rfl)) (fun _ _ _ h => h) (Or.inl ⟨by rfl, ?_⟩) ?_ ?_
       rotate_left
       ·intro w'
        go_simp
        with_reducible rfl
       rotate_left
       ·simp only [czP]
        rfl
       refine pure_ (i := 5) (N := some 19) (v := ?_) (a' := ?_) #[true, true, true, true, false, true, false, false, false, false, false, false, false] rfl rfl (any_of HT_.out (by kernel_rfl)) (fun _ _ _ h => h) (Or.inl ⟨by rfl, ?_⟩) ?_ ?_
       rotate_left
       ·intro w'
        go_simp
        with_reducible rfl
       rotate_left
       ·simp only [czP]
        rfl
       refine pure_ (i := 6) (N := some 20) (v := ?_) (a' := ?_) #[true, true, true, true, false, true, true, false, false, false, false, false, false] rfl rfl (any_of HT_.out (by kernel_rfl)) (fun _ _ _ h => h) (Or.inl ⟨by rfl, ?_⟩) ?_ ?_
       rotate_left
       ·intro w'
        go_simp
        with_reducible rfl
       rotate_left
       ·simp only [czP]
        rfl
       refine pure_ (i := 7) (N := some 21) (v := ?_) (a' := ?_) #[true, true, true, true, false, true, true, true, false, false, false, false, false] rfl rfl (any_of HT_.out (by kernel_rfl)) (fun _ _ _ h => h) (Or.inl ⟨by rfl, ?_⟩) ?_ ?_
       rotate_left
       ·intro w'
        go_simp
        with_reducible rfl
       rotate_left
       ·simp only [czP]
        rfl
       refine take_ (i := 4) (N := some 18) (v := ?_) (a' := ?_) #[true, true, true, true, true, true, true, true, false, false, false, false, false] rfl rfl (take_ofW HT_.out HW_.out (by kernel_rfl)) (fun _ _ _ h => h) (Or.inl ⟨by rfl, ?_⟩) hHeld ?_ ?_
       rotate_left
       ·rintro w' ⟨s0, s1⟩
        go_simp
        with_reducible rfl
       rotate_left
       ·simp only [czP]
        rfl
       refine take_ (i := 8) (N := some 22) (v := ?_) (a' := ?_) #[true, true, true, true, true, true, true, true, true, false, false, false, false] rfl rfl (take_ofW HT_.out HW_.out (by kernel_rfl)) (fun _ _ _ h => h) (Or.inl ⟨by rfl, ?_⟩) hHeld ?_ ?_
       rotate_left
       ·rintro w' ⟨s0, s1⟩
        go_simp
        with_reducible rfl
       rotate_left
       ·simp only [czP]
        rfl
       refine one_ (i := 9) (N := some 23) #[true, true, true, true, true, true, true, true, true, true, false, false, false] rfl rfl (one_of HT_.out (by kernel_rfl)) (by decide) (fun K hK => ?_);refine goes_ Try.func84 (by kernel_rfl) rfl #[.int .i64 (rd l0 x6_1), .int .i64 (rd l1 x6_1)] (by rfl) rfl rfl Z3x9 ?_
       with_reducible refine (spec_Add.calls (rd l0 x6_1) (rd l1 x6_1) t125 _ A8.out).mono ?_
       rintro e w' ⟨rfl, ⟨nd, rfl⟩⟩
       refine ⟨_, rfl, ?_⟩;refine hK.out _ _ ⟨((HB.out.cell (World.block_lt_of_cell? w _ hw123_0)).trans hw123_0), ((HB.out.cell (World.block_lt_of_cell? w _ hw124_0)).trans hw124_0)⟩ (fun hHeld => ?_);clear hK K;refine norm_ (a' := ?_) ?_ ?_
       rotate_left
       ·show Act.put _ (some 23) _ = _
        simp only [czP]
        rfl
       refine one_ (i := 10) (N := some 24) #[true, true, true, true, true, true, true, true, true, true, true, false, false] rfl rfl (one_of HT_.out (by kernel_rfl)) (by decide) (fun K hK => ?_);refine value_ (w1 := ?_) (v := ?_) (by rfl) rfl ?_ ?_
       rotate_left 2
       ·go_simp
        constructor
        ·rfl
        ·rfl
       refine hK.out _ _ ⟨(World.cell?_alloc_lt _ _ _ (World.block_lt_of_cell? _ _ (((HB.out.cell (World.block_lt_of_cell? w _ hw123_0)).trans hw123_0)))).trans (((HB.out.cell (World.block_lt_of_cell? w _ hw123_0)).trans hw123_0)), (World.cell?_alloc_lt _ _ _ (World.block_lt_of_cell? _ _ (((HB.out.cell (World.block_lt_of_cell? w _ hw124_0)).trans hw124_0)))).trans (((HB.out.cell (World.block_lt_of_cell? w _ hw124_0)).trans hw124_0))⟩ (fun hHeld => ?_);clear hK K;refine norm_ (a' := ?_) ?_ ?_
       rotate_left
       ·show Act.put _ (some 24) _ = _
        simp only [czP]
        rfl
       refine one_ (i := 11) (N := some 25) #[true, true, true, true, true, true, true, true, true, true, true, true, false] rfl rfl (one_of HT_.out (by kernel_rfl)) (by decide) (fun K hK => ?_);refine Kd.R_append_step (Kd.int .i64) (w0 := w) w.heap.size (by rfl) (.tmp 14) (.tmp 24) 23 3 (.int .i64 0) 8 rfl Try.underlying23 info3 rfl (by decide) (by omega) u5 x5_1 t125 [.int .i64 t125] (fun _ => True) (fun _ => False) rfl rfl ?aP (fun _ hk => hk.elim) ?aF ?aO ?aB ?aS ?aL ?_
       (case aP => exact rfl)
       (case aB => exact Z3x2)
       (case aF => exact (fun _ _ => trivial))
       (case aO => exact (by (with_reducible repeat (first | apply Kd.R_alloc | apply Kd.R_drewN | apply Kd.R_drew)); exact HO_5.out))
       (case aS => exact (below_size Z3x2))
       (case aL => have := LMc9.out; omega)
       intro v127 w11 ho hb hg hat;rw [← Ny126.out] at ho;have n0_ := Aside0.mk (hb);have n1_ := Aside0.mk (ho);clear HB;clear HO_5;have HB := n0_;have HO128 := n1_;clear n0_ n1_;clear ho hb hg hat;refine hK.out _ _ ⟨((HB.out.cell (World.block_lt_of_cell? w _ hw123_0)).trans hw123_0), ((HB.out.cell (World.block_lt_of_cell? w _ hw124_0)).trans hw124_0)⟩ (fun hHeld => ?_);clear hK K;refine norm_ (a' := ?_) ?_ ?_
       rotate_left
       ·show Act.put _ (some 25) _ = _
        simp only [czP]
        rfl
       refine pure_ (i := 12) (N := some 5) (v := ?_) (a' := ?_) #[true, true, true, true, true, true, true, true, true, true, true, true, true] rfl rfl (any_of HT_.out (by kernel_rfl)) (fun _ _ _ h => h) (Or.inl ⟨by rfl, ?_⟩) ?_ ?_
       rotate_left
       ·intro w'
        go_simp
        with_reducible rfl
       rotate_left
       ·simp only [czP]
        rfl
       refine done_ (done_of HT_.out (by kernel_rfl)) ?_
       try go_wp2
       go_roundg k1
       case measure => have := HK1.out; omega
       case rel => exact ⟨(y126), (wrap64 (x6_1 + 1)), (by first | rfl | (simp; done) | (simp [*]; done)), H', ⟨by have := HK1.out; omega⟩, ⟨by (with_reducible repeat (first | apply Kd.R_alloc | apply Kd.R_drewN | apply Kd.R_drew)); exact HO128.out⟩, ⟨Z3x2⟩⟩
      ·rw [if_neg c9] at H
       exact absurd H (by simp)
     ·rw [if_neg c7] at H
      exact absurd H (by simp)
    ·rw [if_neg c6] at H
     exact absurd H (by simp)
   ·rw [if_neg c5] at H
    have c5b0 : decide (x6_1 < (l0.length : Int)) = false := decide_eq_false c5;clear c5;obtain rfl := Option.some.inj H;simp only [Option.some.injEq, Prod.mk.injEq] at H;obtain ⟨rfl⟩ := H
    go_wp2
    go_ret
    exact ⟨_, Z3x20, by (with_reducible repeat (first | apply Kd.R_alloc | apply Kd.R_drewN | apply Kd.R_drew)); exact HO_5.out, Z3x2⟩

theorem spec_l1Min.still (a b r : Int) (w : World) (h : spec_l1Min.f a b = some r) : Calls Try.prog 85 #[.int .i64 a, .int .i64 b] w fun e w' => e = .returned (.int .i64 r) ∧ w' = w := by
 unfold spec_l1Min.f at h
 by_cases c : a < b
 ·rw [if_pos c] at h
  obtain rfl := Option.some.inj h
  have c1 : decide (a < b) = true := decide_eq_true c
  clear h c
  go_enter Try.func85, Try.ntmps85
  go_wp2
  go_ret
  exact ⟨rfl, rfl⟩
 ·rw [if_neg c] at h
  obtain rfl := Option.some.inj h
  have c1 : decide (a < b) = false := decide_eq_false c
  clear h c
  go_enter Try.func85, Try.ntmps85
  go_wp2
  go_ret
  exact ⟨rfl, rfl⟩
theorem spec_l1Max.still (a b r : Int) (w : World) (h : spec_l1Max.f a b = some r) : Calls Try.prog 86 #[.int .i64 a, .int .i64 b] w fun e w' => e = .returned (.int .i64 r) ∧ w' = w := by
 unfold spec_l1Max.f at h
 by_cases c : a > b
 ·rw [if_pos c] at h
  obtain rfl := Option.some.inj h
  have c1 : decide (b < a) = true := decide_eq_true c
  clear h c
  go_enter Try.func86, Try.ntmps86
  go_wp2
  go_ret
  exact ⟨rfl, rfl⟩
 ·rw [if_neg c] at h
  obtain rfl := Option.some.inj h
  have c1 : decide (b < a) = false := decide_eq_false c
  clear h c
  go_enter Try.func86, Try.ntmps86
  go_wp2
  go_ret
  exact ⟨rfl, rfl⟩
theorem spec_l2Clip.still (a b r : Int) (w : World) (h : spec_l2Clip.f a b = some r) : Calls Try.prog 102 #[.int .i64 a, .int .i64 b] w fun e w' => e = .returned (.int .i64 r) ∧ w' = w := by
 obtain ⟨t, h1, h2⟩ := Option.bind_eq_some_iff.mp h
 obtain ⟨t', h3, h4⟩ := Option.bind_eq_some_iff.mp h2
 obtain rfl := Option.some.inj h4
 have H1 := Aside0.mk h1
 have H3 := Aside0.mk h3
 clear h h1 h2 h3 h4
 go_enter Try.func102, Try.ntmps102
 go_wp2_with fail
 refine (spec_l1Min.still _ _ _ _ H1.out).mono ?_
 rintro e w' ⟨rfl, rfl⟩
 go_wp2_with fail
 refine (spec_l1Max.still _ _ _ _ H3.out).mono ?_
 rintro e w' ⟨rfl, rfl⟩
 go_wp2
 go_ret
 exact ⟨rfl, rfl⟩
theorem spec_Add.still (a b r : Int) (w : World) (h : spec_Add.f a b = some r) : Calls Try.prog 84 #[.int .i64 a, .int .i64 b] w fun e w' => e = .returned (.int .i64 r) ∧ w' = w := by
 obtain ⟨t, h1, h2⟩ := Option.bind_eq_some_iff.mp h
 obtain ⟨t', h3, h4⟩ := Option.bind_eq_some_iff.mp h2
 obtain ⟨t'', h5, h6⟩ := Option.bind_eq_some_iff.mp h4
 obtain rfl := Option.some.inj h6
 have H1 := Aside0.mk h1
 have H3 := Aside0.mk h3
 have H5 := Aside0.mk h5
 clear h h1 h2 h3 h4 h5 h6
 go_enter Try.func84, Try.ntmps84
 go_wp2_with fail
 refine (spec_l2Clip.still _ _ _ _ H1.out).mono ?_
 rintro e w' ⟨rfl, rfl⟩
 go_wp2_with fail
 refine (spec_l2Clip.still _ _ _ _ H3.out).mono ?_
 rintro e w' ⟨rfl, rfl⟩
 go_wp2_with fail
 refine (spec_l1Min.still _ _ _ _ H5.out).mono ?_
 rintro e w' ⟨rfl, rfl⟩
 go_wp2
 go_ret
 exact ⟨rfl, rfl⟩
theorem rows2 {w : World} {A : Option Addr} {c : Nat} {R : List (List Int)} (h : (Kd.slice 3 (Kd.int .i64)).C w A R.length R) (hR : R.length = 2) :
  ∃ ad B0 e0 B1 e1, A = some ad ∧ w.cell? (ad.add 0) = some (.slice B0 (R.getD 0 []).length e0) ∧ w.cell? (ad.add 1) = some (.slice B1 (R.getD 1 []).length e1) ∧ (R.getD 0 []).length ≤ e0 ∧ (R.getD 1 []).length ≤ e1 ∧ (Kd.int .i64).C w B0 (R.getD 0 []).length (R.getD 0 []) ∧ (Kd.int .i64).C w B1 (R.getD 1 []).length (R.getD 1 []) := by
 have key : ∀ i : Nat, i < 2 → ∃ ad B e, A = some ad ∧ w.cell? (ad.add i) = some (.slice B (R.getD i []).length e) ∧ (R.getD i []).length ≤ e ∧ (Kd.int .i64).C w B (R.getD i []).length (R.getD i []) := by
  intro i hi
  obtain ⟨ad, c, e, _, hK, hc⟩ := Kd.C_get h ([] : List Int) (i : Int) (by omega) (by omega)
  obtain ⟨A0, c0, rfl, hl, hC⟩ := hK
  have h1 := hc 0 _ rfl
  have hs : (Kd.slice 3 (Kd.int .i64)).sz = 1 := rfl
  rw [Int.toNat_natCast] at h1 hC hl
  rw [hs, Nat.mul_one, Nat.add_zero] at h1
  exact ⟨ad, A0, c0, e, h1, hl, hC⟩
 obtain ⟨ad, B0, e0, ha, h1, h2, h3⟩ := key 0 (by omega)
 obtain ⟨ad', B1, e1, ha', h4, h5, h6⟩ := key 1 (by omega)
 rw [ha] at ha'
 injection ha' with ha'
 subst ha'
 exact ⟨ad, B0, e0, B1, e1, ha, h1, h4, h2, h5, h3, h6⟩
theorem lit_S {W : World} {base p0 p1 gl : Nat} {c0 c1 : Nat} {v0 v1 : Value} {l0 l1 : List Int} {ok : Nat → Prop} (e0 : v0 = .slice (some ⟨p0, 0, none⟩) l0.length c0) (e1 : v1 = .slice (some ⟨p1, 0, none⟩) l1.length c1)
  (hg : W.heap[gl]? = some (.cells #[v0, v1] 23 (0, 0))) (h0 : Kd.R (Kd.int .i64) 3 W base (fun k => k = p0) v0 l0) (h1 : Kd.R (Kd.int .i64) 3 W base (fun k => k = p1) v1 l1)
  (hn : p0 ≠ p1 ∧ p0 ≠ gl ∧ p1 ≠ gl) (hb : base ≤ gl) (ho : ok p0 ∧ ok p1 ∧ ok gl) : Kd.S (Kd.slice 3 (Kd.int .i64)) 23 W base ok (.slice (some ⟨gl, 0, none⟩) 2 2) [l0, l1] := by
 have hM : ∀ (j : Nat) (x : List Int), [l0, l1][j]? = some x → (Kd.slice 3 (Kd.int .i64)).M W base (fun k => k = (if j = 0 then p0 else p1)) x (([v0, v1].drop (j * 1)).take 1) := by
  intro j x hj
  match j, hj with
  | 0, hj => simp at hj; subst hj; exact ⟨_, rfl, h0⟩
  | 1, hj => simp at hj; subst hj; exact ⟨_, rfl, h1⟩
  | j + 2, hj => simp at hj
 obtain ⟨f, hr⟩ := Kd.reps_tag (d := Kd.slice 3 (Kd.int .i64)) (w := W) (base := base) (ok := fun k => ok k ∧ some k ≠ (Value.slice (some ⟨gl, 0, none⟩) 2 2).ownBlock) (xs := [l0, l1]) (inner := [v0, v1])
  (fun j k => k = (if j = 0 then p0 else p1) ∧ j < 2) (fun i j k hi hj => by
   obtain ⟨hi, hi2⟩ := hi
   obtain ⟨hj, hj2⟩ := hj
   rw [hi] at hj
   by_cases e1 : i = 0 <;> by_cases e2 : j = 0 <;> simp [e1, e2] at hj <;> omega) (fun j k hk => by
   obtain ⟨hk, _⟩ := hk
   subst hk
   simp only [Value.ownBlock, Option.map_some, ne_eq, Option.some.injEq]
   split
   ·exact ⟨ho.1, hn.2.1⟩
   ·exact ⟨ho.2.1, hn.2.2⟩) rfl (fun j x hj => by
   have hlt : j < 2 := (List.getElem?_eq_some_iff.1 hj).1
   exact (Kd.slice 3 (Kd.int .i64)).M_mono (fun k hk => ⟨hk, hlt⟩) (hM j x hj))
 exact ⟨f, fun k hk => by
  have : gl = k := by simpa [Value.ownBlock] using hk
  subst this
  exact ho.2.2, _, ⟨rfl, .inr ⟨gl, 2, _, rfl, hb, hg, Nat.le_refl _, by simp [maxLen], rfl, rfl⟩⟩, hr⟩
structure L3F (w W : World) (A0 B0 : Array Value) : Prop where
 a : Bx W w.heap.size 26 A0
 b : Bx W (w.heap.size + 1) 26 B0
 o : Bx W (w.heap.size + 2) 26 #[.int .i64 0, .int .i64 0, .int .i64 0, .int .i64 0, .slice none 0 0, .slice none 0 0, .slice none 0 0]
 l : Below w.heap.size w W
theorem L3F.below {w W W' : World} {A0 B0 : Array Value} (f : L3F w W A0 B0) (hb : Below W.heap.size W W') : L3F w W' A0 B0 := ⟨f.a.below hb, f.b.below hb, f.o.below hb, below_step f.l hb⟩
theorem L3F.kp {w W W' : World} {A0 B0 : Array Value} {g : Nat} (f : L3F w W A0 B0) (k : Kp W W' g (g + 1)) (h : w.heap.size + 2 < g) : L3F w W' A0 B0 :=
 ⟨f.a.kp k (.inl (by omega)), f.b.kp k (.inl (by omega)), f.o.kp k (.inl h), below_kp f.l k (by omega) f.l.size⟩
theorem row_to {w6 W : World} {b b0 g n c : Nat} {ok : Nat → Prop} {l : List Int} (J : Kd.R (Kd.int .i64) 3 w6 b ok (.slice (some ⟨g, 0, none⟩) n c) l) (hb : Below w6.heap.size w6 W) (h : b0 ≤ b) : Kd.R (Kd.int .i64) 3 W b0 (fun k => k = g) (.slice (some ⟨g, 0, none⟩) n c) l :=
 Kd.R_below (Kd.R_lower (Kd.R_reok rfl J (fun k hk => by
  have : g = k := by simpa [Value.ownBlock] using hk
  exact this.symm)) h) hb
theorem sz_alloc (w : World) (o : Obj) : w.heap.size ≤ (w.alloc o).heap.size := by simp
theorem sz_alloc1 {w : World} {o : Obj} {n : Nat} (h : (w.alloc o).heap.size ≤ n) : w.heap.size + 1 ≤ n := by simpa using h
structure L3I (w wc : World) (AA BB : Array Value) (g5 n0 : Nat) (cs : Array Value) (vh vr vz : Value) (HZ G : List Int) (ZZ : List (List Int)) : Prop where
 F : L3F w wc AA BB
 X : Bx wc g5 26 cs
 H : Kd.R (Kd.int .i64) 3 wc (w.heap.size + 3) (fun k => k ≠ g5 ∧ k < n0 ∧ w.heap.size + 2 < k) vh HZ
 Z : Kd.S (Kd.slice 3 (Kd.int .i64)) 23 wc (w.heap.size + 3) (fun k => k ≠ g5 ∧ k < n0 ∧ w.heap.size + 2 < k ∧ some k ≠ vh.ownBlock) vz ZZ
 G : Kd.R (Kd.int .i64) 3 wc (w.heap.size + 3) (fun k => n0 ≤ k) vr G
 lo : w.heap.size + 2 < g5
 hi : g5 < n0
 n : n0 ≤ wc.heap.size
theorem l3_fin {w W wc : World} {AA BB : Array Value} {g5 gh g6 g7 gl ch c6 c7 : Nat} {HZ Z0 Z1 : List Int} {CA CS LM HM : Int} (F : L3F w wc AA BB)
  (X : Bx wc g5 26 #[.int .i64 CA, .int .i64 CS, .int .i64 LM, .int .i64 HM, .slice (some ⟨gh, 0, none⟩) HZ.length ch, .slice none 0 0, .slice (some ⟨gl, 0, none⟩) 2 2])
  (hm : ∀ k, k < W.heap.size → k ≠ g5 → wc.heap[k]? = W.heap[k]?) (hs : W.heap.size ≤ wc.heap.size)
  (J5 : Kd.R (Kd.int .i64) 3 W (w.heap.size + 3) (fun k => k = gh) (.slice (some ⟨gh, 0, none⟩) HZ.length ch) HZ)
  (J6 : Kd.R (Kd.int .i64) 3 W (w.heap.size + 3) (fun k => k = g6) (.slice (some ⟨g6, 0, none⟩) Z0.length c6) Z0)
  (J7 : Kd.R (Kd.int .i64) 3 W (w.heap.size + 3) (fun k => k = g7) (.slice (some ⟨g7, 0, none⟩) Z1.length c7) Z1)
  (hl : W.heap[gl]? = some (.cells #[.slice (some ⟨g6, 0, none⟩) Z0.length c6, .slice (some ⟨g7, 0, none⟩) Z1.length c7] 23 (0, 0)))
  (hn : (gh ≠ g6 ∧ gh ≠ g7 ∧ gh ≠ gl ∧ g6 ≠ g7 ∧ g6 ≠ gl ∧ g7 ≠ gl) ∧ (gh ≠ g5 ∧ g6 ≠ g5 ∧ g7 ≠ g5 ∧ gl ≠ g5) ∧ (gh < W.heap.size ∧ g6 < W.heap.size ∧ g7 < W.heap.size ∧ gl < W.heap.size) ∧ (w.heap.size + 2 < gh ∧ w.heap.size + 2 < g6 ∧ w.heap.size + 2 < g7 ∧ w.heap.size + 2 < gl) ∧ w.heap.size + 2 < g5) :
  L3I w wc AA BB g5 wc.heap.size #[.int .i64 CA, .int .i64 CS, .int .i64 LM, .int .i64 HM, .slice (some ⟨gh, 0, none⟩) HZ.length ch, .slice none 0 0, .slice (some ⟨gl, 0, none⟩) 2 2] (.slice (some ⟨gh, 0, none⟩) HZ.length ch) (.slice none 0 0) (.slice (some ⟨gl, 0, none⟩) 2 2) HZ [] [Z0, Z1] := by
 obtain ⟨⟨n1, n2, n3, n4, n5, n6⟩, ⟨m1, m2, m3, m4⟩, ⟨l1, l2, l3, l4⟩, ⟨p1, p2, p3, p4⟩, h5⟩ := hn
 have hb : w.heap.size + 3 ≤ gl := by omega
 have hX := X.lt
 refine ⟨F, X, ?_, ?_, Kd.R_nil _ _ _ _ _, h5, hX, Nat.le_refl _⟩
 ·exact Kd.R_mono (Kd.R_move J5 (fun k hk => hm k (by omega) (by omega))) (fun k hk => ⟨by omega, by omega, by omega⟩)
 ·have s := lit_S (ok := fun k => k = g6 ∨ k = g7 ∨ k = gl) rfl rfl hl J6 J7 ⟨n4, n5, n6⟩ hb ⟨.inl rfl, .inr (.inl rfl), .inr (.inr rfl)⟩
  refine Kd.S_mono (Kd.S_move s (fun k hk => hm k (by omega) (by omega))) (fun k hk => ⟨by omega, by omega, by omega, fun e => ?_⟩)
  have : k = gh := by simpa [Value.ownBlock] using e
  omega
theorem sz_al' (w : World) (o : Obj) : (w.alloc o).heap.size = w.heap.size + 1 := by simp
theorem l3_finC {w w7 : World} {AA BB : Array Value} {g5 q5 g6 q6 g7 q7 : Nat} {HZ Z0 Z1 : List Int} {CA CS LM HM : Int} (F : L3F w w7 AA BB) {gB : Nat} (Y : Bx w7 gB 26 #[.int .i64 0, .int .i64 0, .int .i64 0, .int .i64 0, .slice none 0 0, .slice none 0 0, .slice none 0 0]) (J5 : Kd.R (Kd.int .i64) 3 w7 (w.heap.size + 3) (fun k => k = g5) (.slice (some ⟨g5, 0, none⟩) HZ.length q5) HZ) (J6 : Kd.R (Kd.int .i64) 3 w7 (w.heap.size + 3) (fun k => k = g6) (.slice (some ⟨g6, 0, none⟩) Z0.length q6) Z0) (J7 : Kd.R (Kd.int .i64) 3 w7 (w.heap.size + 3) (fun k => k = g7) (.slice (some ⟨g7, 0, none⟩) Z1.length q7) Z1) (hn : w.heap.size + 2 < gB ∧ g5 ≠ gB ∧ g6 ≠ gB ∧ g7 ≠ gB ∧ g5 ≠ g6 ∧ g5 ≠ g7 ∧ g6 ≠ g7 ∧ g5 < w7.heap.size ∧ g6 < w7.heap.size ∧ g7 < w7.heap.size ∧ w.heap.size + 2 < g5 ∧ w.heap.size + 2 < g6 ∧ w.heap.size + 2 < g7 ∧ w.heap.size + 2 < w7.heap.size) : L3I w (((((((((w7.alloc (.cells #[.slice (some ⟨g6, 0, none⟩) Z0.length q6, .slice (some ⟨g7, 0, none⟩) Z1.length q7] 23)).setCell ⟨gB, 0, none⟩ (.int .i64 CA)).setCell ⟨gB, 1, none⟩ (.int .i64 CS)).setCell ⟨gB, 2, none⟩ (.int .i64 LM)).setCell ⟨gB, 3, none⟩ (.int .i64 HM)).setCell ⟨gB, 4, none⟩ (.slice (some ⟨g5, 0, none⟩) HZ.length q5)).setCell ⟨gB, 5, none⟩ (.slice none 0 0)).setCell ⟨gB, 6, none⟩ (.slice (some ⟨w7.heap.size, 0, none⟩) 2 2))) AA BB (gB) (((((((((w7.alloc (.cells #[.slice (some ⟨g6, 0, none⟩) Z0.length q6, .slice (some ⟨g7, 0, none⟩) Z1.length q7] 23)).setCell ⟨gB, 0, none⟩ (.int .i64 CA)).setCell ⟨gB, 1, none⟩ (.int .i64 CS)).setCell ⟨gB, 2, none⟩ (.int .i64 LM)).setCell ⟨gB, 3, none⟩ (.int .i64 HM)).setCell ⟨gB, 4, none⟩ (.slice (some ⟨g5, 0, none⟩) HZ.length q5)).setCell ⟨gB, 5, none⟩ (.slice none 0 0)).setCell ⟨gB, 6, none⟩ (.slice (some ⟨w7.heap.size, 0, none⟩) 2 2))).heap.size #[.int .i64 CA, .int .i64 CS, .int .i64 LM, .int .i64 HM, .slice (some ⟨g5, 0, none⟩) HZ.length q5, .slice none 0 0, .slice (some ⟨w7.heap.size, 0, none⟩) 2 2] (.slice (some ⟨g5, 0, none⟩) HZ.length q5) (.slice none 0 0) (.slice (some ⟨w7.heap.size, 0, none⟩) 2 2) HZ [] [Z0, Z1] := by
 have hk := (Y.below (below_alloc (Below.refl _ w7) (.cells #[.slice (some ⟨g6, 0, none⟩) Z0.length q6, .slice (some ⟨g7, 0, none⟩) Z1.length q7] 23))).fill (.int .i64 CA) (.int .i64 CS) (.int .i64 LM) (.int .i64 HM) (.slice (some ⟨g5, 0, none⟩) HZ.length q5) (.slice none 0 0) (.slice (some ⟨w7.heap.size, 0, none⟩) 2 2)
 have e := sz_al' w7 (.cells #[.slice (some ⟨g6, 0, none⟩) Z0.length q6, .slice (some ⟨g7, 0, none⟩) Z1.length q7] 23)
 have y := Y.lt
 exact l3_fin (W := w7.alloc (.cells #[.slice (some ⟨g6, 0, none⟩) Z0.length q6, .slice (some ⟨g7, 0, none⟩) Z1.length q7] 23)) (L3F.kp (F.below (below_alloc (Below.refl _ w7) (.cells #[.slice (some ⟨g6, 0, none⟩) Z0.length q6, .slice (some ⟨g7, 0, none⟩) Z1.length q7] 23))) hk.2 (by omega)) hk.1 (fun k h1 h2 => hk.2.kept.2 k h1 (by omega)) hk.2.kept.1 (Kd.R_below J5 (below_alloc (Below.refl _ w7) (.cells #[.slice (some ⟨g6, 0, none⟩) Z0.length q6, .slice (some ⟨g7, 0, none⟩) Z1.length q7] 23))) (Kd.R_below J6 (below_alloc (Below.refl _ w7) (.cells #[.slice (some ⟨g6, 0, none⟩) Z0.length q6, .slice (some ⟨g7, 0, none⟩) Z1.length q7] 23))) (Kd.R_below J7 (below_alloc (Below.refl _ w7) (.cells #[.slice (some ⟨g6, 0, none⟩) Z0.length q6, .slice (some ⟨g7, 0, none⟩) Z1.length q7] 23))) (blk_new _ _) (by have := F.l.size; omega)
theorem l3_finA {w w7 : World} {AA BB : Array Value} {g5 q5 g6 q6 g7 q7 : Nat} {HZ Z0 Z1 : List Int} {CA CS LM HM : Int} (F : L3F w w7 AA BB) (J5 : Kd.R (Kd.int .i64) 3 w7 (w.heap.size + 3) (fun k => k = g5) (.slice (some ⟨g5, 0, none⟩) HZ.length q5) HZ) (J6 : Kd.R (Kd.int .i64) 3 w7 (w.heap.size + 3) (fun k => k = g6) (.slice (some ⟨g6, 0, none⟩) Z0.length q6) Z0) (J7 : Kd.R (Kd.int .i64) 3 w7 (w.heap.size + 3) (fun k => k = g7) (.slice (some ⟨g7, 0, none⟩) Z1.length q7) Z1) (hn : w.heap.size + 2 < w7.heap.size + 1 ∧ g5 ≠ w7.heap.size + 1 ∧ g6 ≠ w7.heap.size + 1 ∧ g7 ≠ w7.heap.size + 1 ∧ g5 ≠ g6 ∧ g5 ≠ g7 ∧ g6 ≠ g7 ∧ g5 < w7.heap.size ∧ g6 < w7.heap.size ∧ g7 < w7.heap.size ∧ w.heap.size + 2 < g5 ∧ w.heap.size + 2 < g6 ∧ w.heap.size + 2 < g7 ∧ w.heap.size + 2 < w7.heap.size) : L3I w (((w7.alloc (.cells #[.slice (some ⟨g6, 0, none⟩) Z0.length q6, .slice (some ⟨g7, 0, none⟩) Z1.length q7] 23)).alloc (.cells #[.int .i64 CA, .int .i64 CS, .int .i64 LM, .int .i64 HM, .slice (some ⟨g5, 0, none⟩) HZ.length q5, .slice none 0 0, .slice (some ⟨w7.heap.size, 0, none⟩) 2 2] 26))) AA BB (w7.heap.size + 1) (((w7.alloc (.cells #[.slice (some ⟨g6, 0, none⟩) Z0.length q6, .slice (some ⟨g7, 0, none⟩) Z1.length q7] 23)).alloc (.cells #[.int .i64 CA, .int .i64 CS, .int .i64 LM, .int .i64 HM, .slice (some ⟨g5, 0, none⟩) HZ.length q5, .slice none 0 0, .slice (some ⟨w7.heap.size, 0, none⟩) 2 2] 26))).heap.size #[.int .i64 CA, .int .i64 CS, .int .i64 LM, .int .i64 HM, .slice (some ⟨g5, 0, none⟩) HZ.length q5, .slice none 0 0, .slice (some ⟨w7.heap.size, 0, none⟩) 2 2] (.slice (some ⟨g5, 0, none⟩) HZ.length q5) (.slice none 0 0) (.slice (some ⟨w7.heap.size, 0, none⟩) 2 2) HZ [] [Z0, Z1] := by
 have e := sz_al' w7 (.cells #[.slice (some ⟨g6, 0, none⟩) Z0.length q6, .slice (some ⟨g7, 0, none⟩) Z1.length q7] 23)
 have e2 := sz_al' (w7.alloc (.cells #[.slice (some ⟨g6, 0, none⟩) Z0.length q6, .slice (some ⟨g7, 0, none⟩) Z1.length q7] 23)) (.cells #[.int .i64 CA, .int .i64 CS, .int .i64 LM, .int .i64 HM, .slice (some ⟨g5, 0, none⟩) HZ.length q5, .slice none 0 0, .slice (some ⟨w7.heap.size, 0, none⟩) 2 2] 26)
 have X := Bx.new (w7.alloc (.cells #[.slice (some ⟨g6, 0, none⟩) Z0.length q6, .slice (some ⟨g7, 0, none⟩) Z1.length q7] 23)) 26 #[.int .i64 CA, .int .i64 CS, .int .i64 LM, .int .i64 HM, .slice (some ⟨g5, 0, none⟩) HZ.length q5, .slice none 0 0, .slice (some ⟨w7.heap.size, 0, none⟩) 2 2]
 rw [e] at X
 exact l3_fin (W := (w7.alloc (.cells #[.slice (some ⟨g6, 0, none⟩) Z0.length q6, .slice (some ⟨g7, 0, none⟩) Z1.length q7] 23))) ((F.below (below_alloc (Below.refl _ w7) (.cells #[.slice (some ⟨g6, 0, none⟩) Z0.length q6, .slice (some ⟨g7, 0, none⟩) Z1.length q7] 23))).below (below_alloc (Below.refl _ (w7.alloc (.cells #[.slice (some ⟨g6, 0, none⟩) Z0.length q6, .slice (some ⟨g7, 0, none⟩) Z1.length q7] 23))) (.cells #[.int .i64 CA, .int .i64 CS, .int .i64 LM, .int .i64 HM, .slice (some ⟨g5, 0, none⟩) HZ.length q5, .slice none 0 0, .slice (some ⟨w7.heap.size, 0, none⟩) 2 2] 26))) X (fun k h1 h2 => (below_alloc (Below.refl _ (w7.alloc (.cells #[.slice (some ⟨g6, 0, none⟩) Z0.length q6, .slice (some ⟨g7, 0, none⟩) Z1.length q7] 23))) (.cells #[.int .i64 CA, .int .i64 CS, .int .i64 LM, .int .i64 HM, .slice (some ⟨g5, 0, none⟩) HZ.length q5, .slice none 0 0, .slice (some ⟨w7.heap.size, 0, none⟩) 2 2] 26)).block k h1) (by omega) (Kd.R_below J5 (below_alloc (Below.refl _ w7) (.cells #[.slice (some ⟨g6, 0, none⟩) Z0.length q6, .slice (some ⟨g7, 0, none⟩) Z1.length q7] 23))) (Kd.R_below J6 (below_alloc (Below.refl _ w7) (.cells #[.slice (some ⟨g6, 0, none⟩) Z0.length q6, .slice (some ⟨g7, 0, none⟩) Z1.length q7] 23))) (Kd.R_below J7 (below_alloc (Below.refl _ w7) (.cells #[.slice (some ⟨g6, 0, none⟩) Z0.length q6, .slice (some ⟨g7, 0, none⟩) Z1.length q7] 23))) (blk_new _ _) (by have := F.l.size; omega)
theorem l3_finB {w w7 : World} {AA BB : Array Value} {g5 q5 g6 q6 g7 q7 : Nat} {HZ Z0 Z1 : List Int} {CA CS LM HM : Int} (F : L3F w w7 AA BB) (J5 : Kd.R (Kd.int .i64) 3 w7 (w.heap.size + 3) (fun k => k = g5) (.slice (some ⟨g5, 0, none⟩) HZ.length q5) HZ) (J6 : Kd.R (Kd.int .i64) 3 w7 (w.heap.size + 3) (fun k => k = g6) (.slice (some ⟨g6, 0, none⟩) Z0.length q6) Z0) (J7 : Kd.R (Kd.int .i64) 3 w7 (w.heap.size + 3) (fun k => k = g7) (.slice (some ⟨g7, 0, none⟩) Z1.length q7) Z1) (hn : w.heap.size + 2 < w7.heap.size ∧ g5 ≠ w7.heap.size ∧ g6 ≠ w7.heap.size ∧ g7 ≠ w7.heap.size ∧ g5 ≠ g6 ∧ g5 ≠ g7 ∧ g6 ≠ g7 ∧ g5 < w7.heap.size ∧ g6 < w7.heap.size ∧ g7 < w7.heap.size ∧ w.heap.size + 2 < g5 ∧ w.heap.size + 2 < g6 ∧ w.heap.size + 2 < g7 ∧ w.heap.size + 2 < w7.heap.size) : L3I w (((w7.alloc (.cells #[.int .i64 CA, .int .i64 CS, .int .i64 LM, .int .i64 HM, .slice (some ⟨g5, 0, none⟩) HZ.length q5, .slice none 0 0, .slice (some ⟨w7.heap.size + 1, 0, none⟩) 2 2] 26)).alloc (.cells #[.slice (some ⟨g6, 0, none⟩) Z0.length q6, .slice (some ⟨g7, 0, none⟩) Z1.length q7] 23))) AA BB (w7.heap.size) (((w7.alloc (.cells #[.int .i64 CA, .int .i64 CS, .int .i64 LM, .int .i64 HM, .slice (some ⟨g5, 0, none⟩) HZ.length q5, .slice none 0 0, .slice (some ⟨w7.heap.size + 1, 0, none⟩) 2 2] 26)).alloc (.cells #[.slice (some ⟨g6, 0, none⟩) Z0.length q6, .slice (some ⟨g7, 0, none⟩) Z1.length q7] 23))).heap.size #[.int .i64 CA, .int .i64 CS, .int .i64 LM, .int .i64 HM, .slice (some ⟨g5, 0, none⟩) HZ.length q5, .slice none 0 0, .slice (some ⟨w7.heap.size + 1, 0, none⟩) 2 2] (.slice (some ⟨g5, 0, none⟩) HZ.length q5) (.slice none 0 0) (.slice (some ⟨w7.heap.size + 1, 0, none⟩) 2 2) HZ [] [Z0, Z1] := by
 have e := sz_al' w7 (.cells #[.int .i64 CA, .int .i64 CS, .int .i64 LM, .int .i64 HM, .slice (some ⟨g5, 0, none⟩) HZ.length q5, .slice none 0 0, .slice (some ⟨w7.heap.size + 1, 0, none⟩) 2 2] 26)
 have e2 := sz_al' (w7.alloc (.cells #[.int .i64 CA, .int .i64 CS, .int .i64 LM, .int .i64 HM, .slice (some ⟨g5, 0, none⟩) HZ.length q5, .slice none 0 0, .slice (some ⟨w7.heap.size + 1, 0, none⟩) 2 2] 26)) (.cells #[.slice (some ⟨g6, 0, none⟩) Z0.length q6, .slice (some ⟨g7, 0, none⟩) Z1.length q7] 23)
 have hl := blk_new (w7.alloc (.cells #[.int .i64 CA, .int .i64 CS, .int .i64 LM, .int .i64 HM, .slice (some ⟨g5, 0, none⟩) HZ.length q5, .slice none 0 0, .slice (some ⟨w7.heap.size + 1, 0, none⟩) 2 2] 26)) (.cells #[.slice (some ⟨g6, 0, none⟩) Z0.length q6, .slice (some ⟨g7, 0, none⟩) Z1.length q7] 23)
 rw [e] at hl
 exact l3_fin (W := ((w7.alloc (.cells #[.int .i64 CA, .int .i64 CS, .int .i64 LM, .int .i64 HM, .slice (some ⟨g5, 0, none⟩) HZ.length q5, .slice none 0 0, .slice (some ⟨w7.heap.size + 1, 0, none⟩) 2 2] 26)).alloc (.cells #[.slice (some ⟨g6, 0, none⟩) Z0.length q6, .slice (some ⟨g7, 0, none⟩) Z1.length q7] 23))) ((F.below (below_alloc (Below.refl _ w7) (.cells #[.int .i64 CA, .int .i64 CS, .int .i64 LM, .int .i64 HM, .slice (some ⟨g5, 0, none⟩) HZ.length q5, .slice none 0 0, .slice (some ⟨w7.heap.size + 1, 0, none⟩) 2 2] 26))).below (below_alloc (Below.refl _ (w7.alloc (.cells #[.int .i64 CA, .int .i64 CS, .int .i64 LM, .int .i64 HM, .slice (some ⟨g5, 0, none⟩) HZ.length q5, .slice none 0 0, .slice (some ⟨w7.heap.size + 1, 0, none⟩) 2 2] 26))) (.cells #[.slice (some ⟨g6, 0, none⟩) Z0.length q6, .slice (some ⟨g7, 0, none⟩) Z1.length q7] 23))) ((Bx.new w7 26 #[.int .i64 CA, .int .i64 CS, .int .i64 LM, .int .i64 HM, .slice (some ⟨g5, 0, none⟩) HZ.length q5, .slice none 0 0, .slice (some ⟨w7.heap.size + 1, 0, none⟩) 2 2]).below (below_alloc (Below.refl _ (w7.alloc (.cells #[.int .i64 CA, .int .i64 CS, .int .i64 LM, .int .i64 HM, .slice (some ⟨g5, 0, none⟩) HZ.length q5, .slice none 0 0, .slice (some ⟨w7.heap.size + 1, 0, none⟩) 2 2] 26))) (.cells #[.slice (some ⟨g6, 0, none⟩) Z0.length q6, .slice (some ⟨g7, 0, none⟩) Z1.length q7] 23))) (fun k h1 h2 => rfl) (Nat.le_refl _) (Kd.R_below J5 (below_step (below_alloc (Below.refl _ w7) (.cells #[.int .i64 CA, .int .i64 CS, .int .i64 LM, .int .i64 HM, .slice (some ⟨g5, 0, none⟩) HZ.length q5, .slice none 0 0, .slice (some ⟨w7.heap.size + 1, 0, none⟩) 2 2] 26)) (below_alloc (Below.refl _ (w7.alloc (.cells #[.int .i64 CA, .int .i64 CS, .int .i64 LM, .int .i64 HM, .slice (some ⟨g5, 0, none⟩) HZ.length q5, .slice none 0 0, .slice (some ⟨w7.heap.size + 1, 0, none⟩) 2 2] 26))) (.cells #[.slice (some ⟨g6, 0, none⟩) Z0.length q6, .slice (some ⟨g7, 0, none⟩) Z1.length q7] 23)))) (Kd.R_below J6 (below_step (below_alloc (Below.refl _ w7) (.cells #[.int .i64 CA, .int .i64 CS, .int .i64 LM, .int .i64 HM, .slice (some ⟨g5, 0, none⟩) HZ.length q5, .slice none 0 0, .slice (some ⟨w7.heap.size + 1, 0, none⟩) 2 2] 26)) (below_alloc (Below.refl _ (w7.alloc (.cells #[.int .i64 CA, .int .i64 CS, .int .i64 LM, .int .i64 HM, .slice (some ⟨g5, 0, none⟩) HZ.length q5, .slice none 0 0, .slice (some ⟨w7.heap.size + 1, 0, none⟩) 2 2] 26))) (.cells #[.slice (some ⟨g6, 0, none⟩) Z0.length q6, .slice (some ⟨g7, 0, none⟩) Z1.length q7] 23)))) (Kd.R_below J7 (below_step (below_alloc (Below.refl _ w7) (.cells #[.int .i64 CA, .int .i64 CS, .int .i64 LM, .int .i64 HM, .slice (some ⟨g5, 0, none⟩) HZ.length q5, .slice none 0 0, .slice (some ⟨w7.heap.size + 1, 0, none⟩) 2 2] 26)) (below_alloc (Below.refl _ (w7.alloc (.cells #[.int .i64 CA, .int .i64 CS, .int .i64 LM, .int .i64 HM, .slice (some ⟨g5, 0, none⟩) HZ.length q5, .slice none 0 0, .slice (some ⟨w7.heap.size + 1, 0, none⟩) 2 2] 26))) (.cells #[.slice (some ⟨g6, 0, none⟩) Z0.length q6, .slice (some ⟨g7, 0, none⟩) Z1.length q7] 23)))) hl (by have := F.l.size; omega)
theorem cell_same {W W' : World} {a : Addr} {v : Value} (hc : W.cell? a = some v) (h : W'.heap[a.block]? = W.heap[a.block]?) : W'.cell? a = some v := by
 unfold World.cell? at hc ⊢
 rw [h]
 exact hc
theorem al_keep {W : World} (o : Obj) {k : Nat} (h : k < W.heap.size) : (W.alloc o).heap[k]? = W.heap[k]? := (below_alloc (Below.refl W.heap.size W) o).block k h
theorem set_keep {W : World} {g j : Nat} (v : Value) {k : Nat} (h : k ≠ g) : (W.setCell ⟨g, j, none⟩ v).heap[k]? = W.heap[k]? := Below.heap_setCell W ⟨g, j, none⟩ v k h
theorem L3I.drew {w W : World} {AA BB cs : Array Value} {g n0 : Nat} {vh vr vz : Value} {HZ G : List Int} {ZZ : List (List Int)} (m : L3I w W AA BB g n0 cs vh vr vz HZ G ZZ) : L3I w W.drew AA BB g n0 cs vh vr vz HZ G ZZ :=
 ⟨m.F.below (below_drew (Below.refl _ _)), m.X, Kd.R_move m.H (fun _ _ => rfl), Kd.S_move m.Z (fun _ _ => rfl), Kd.R_move m.G (fun _ _ => rfl), m.lo, m.hi, m.n⟩
theorem L3I.gkeep {w W w1 : World} {AA BB cs : Array Value} {g n0 : Nat} {vh vr vz : Value} {HZ G : List Int} {ZZ : List (List Int)} (m : L3I w W AA BB g n0 cs vh vr vz HZ G ZZ) (hg : W.grownBy w1 vr.ownBlock) : ∀ k, k < n0 → k ≠ g → w1.heap[k]? = W.heap[k]? :=
 fun k hk _ => hg.block k (Nat.lt_of_lt_of_le hk m.n) (fun e => by have := m.G.1 k e.symm; omega)
theorem L3I.grow {w W w1 : World} {AA BB cs : Array Value} {g n0 : Nat} {vh vr vz v1 : Value} {HZ G G1 : List Int} {ZZ : List (List Int)} (m : L3I w W AA BB g n0 cs vh vr vz HZ G ZZ) (hg : W.grownBy w1 vr.ownBlock) (hb : Below (w.heap.size + 3) W w1) (ho : Kd.R (Kd.int .i64) 3 w1 (w.heap.size + 3) (fun k => n0 ≤ k) v1 G1) : L3I w w1 AA BB g n0 cs vh v1 vz HZ G1 ZZ := by
 have key : ∀ k, k < n0 → w1.heap[k]? = W.heap[k]? := fun k hk => hg.block k (Nat.lt_of_lt_of_le hk m.n) (fun e => by have := m.G.1 k e.symm; omega)
 have o1 := m.lo
 have o2 := m.hi
 exact ⟨⟨(key _ (by omega)).trans m.F.a, (key _ (by omega)).trans m.F.b, (key _ (by omega)).trans m.F.o, m.F.l.trans ⟨hb.os, hb.tape, hb.output, hb.size, fun i hi => hb.block i (by omega)⟩⟩, (key _ o2).trans m.X, Kd.R_move m.H (fun k hk => key k hk.2.1), Kd.S_move m.Z (fun k hk => key k hk.2.1), ho, o1, o2, Nat.le_trans m.n hb.size⟩
def l3ld : Op := Op.load 23 (Operand.tmp 68)
theorem L3I.sk {w W : World} {AA BB cs : Array Value} {g n0 : Nat} {x y z : Sl} {HZ G : List Int} {ZZ : List (List Int)} (m : L3I w W AA BB g n0 cs (.slice x.A x.n x.c) (.slice y.A y.n y.c) (.slice z.A z.n z.c) HZ G ZZ) : Sk W (w.heap.size + 3) W.heap.size x y z HZ G ZZ := by
 have o1 := m.lo
 have o2 := m.hi
 have o3 := m.n
 have hH := m.H.1
 have hG := m.G.1
 exact ⟨Kd.R_mono m.H (fun k hk => by omega), Kd.R_mono (Kd.R_bound m.G) (fun k hk => ⟨hk.2.2.1, fun e => by have := hH k e.symm; omega⟩), Kd.S_mono m.Z (fun k hk => ⟨by omega, hk.2.2.2, fun e => by have := hG k e.symm; omega⟩)⟩
theorem app1_step {ops : Array Oper} {o : Oper} {a : Act} (W X : World) {K : Act → World → Prop} {Q : Exit → Act → World → Prop} {base : Nat} {ok : Nat → Prop} {p : Int} (hX : X = W.alloc (.cells #[.int .i64 p] 3)) (hg : o.guard = none) (s x : Operand) (hop : o.op = Op.call { callee := Callee.builtin Builtin.append, args := #[s, x], argTypes := #[23, 23] })
  (v : Value) (xs : List Int) (p' : Int) (hp : p' = p) (hs : a.eval s = v) (hx : a.eval x = .slice (some ⟨W.heap.size, 0, none⟩) 1 1) (HO : Kd.R (Kd.int .i64) 3 W base ok v xs) (hfresh : ∀ k, W.heap.size ≤ k → ok k) (hbase : base ≤ W.heap.size) (hl : (xs.length + 1) * 8 ≤ 140737488355328)
  (hK : ∀ v1 w1, Kd.R (Kd.int .i64) 3 w1 base ok v1 (xs ++ [p]) → Below base W w1 → W.grownBy w1 v.ownBlock → K (a.put o.dst v1) w1) : if Region.wanted o (yielded ops a.tmps) = true then Oper.wp Try.prog o a X K Q else K (a.put o.dst undef) X := by
 subst hX
 exact Kd.R_append_step (Kd.int .i64) (w0 := W) base (by simp [Region.wanted, hg]) s x 23 3 (.int .i64 0) 8 hop Try.underlying23 info3 rfl (by decide) (by omega) v xs p [.int .i64 p] ok (fun _ => False) hs hx rfl (fun _ h => h.elim) hfresh HO (Below.refl _ _) hbase hl (fun v1 w1 h1 h2 h3 _ => hK v1 w1 h1 h2 h3)
theorem L3I.set {w W : World} {AA BB cs cs' : Array Value} {g n0 : Nat} {vh vr vz : Value} {HZ G : List Int} {ZZ : List (List Int)} (m : L3I w W AA BB g n0 cs vh vr vz HZ G ZZ) (i : Nat) (v : Value) (he : cs.setIfInBounds i v = cs') : L3I w (W.setCell ⟨g, i, none⟩ v) AA BB g n0 cs' vh vr vz HZ G ZZ := by
 have k : Kp W (W.setCell ⟨g, i, none⟩ v) g (g + 1) := Kp.set ⟨Nat.le_refl _, Nat.lt_succ_self _⟩ v
 have o1 := m.lo
 have o2 := m.hi
 have o3 := m.n
 have e := k.kept.1
 exact ⟨m.F.kp k (by omega), blk_put m.X i v he, Kd.R_move m.H (fun i hi => k.kept.2 i (by omega) (fun hs => hi.1 (by omega))), Kd.S_move m.Z (fun i hi => k.kept.2 i (by omega) (fun hs => hi.1 (by omega))),
  Kd.R_mono (Kd.R_move (Kd.R_bound m.G) (fun i hi => k.kept.2 i hi.2.2.1 (fun hs => by omega))) (fun _ hk => hk.1), o1, o2, by omega⟩
set_option maxHeartbeats 32000000 in
set_option maxRecDepth 100000 in
theorem spec_l3Merge.walk (k : Nat) (c s lo hi c' s' lo' hi' : Int) {A4 A5 A6 B4 B5 B6 : Option Addr} {c4 c5 c6 d4 d5 d6 : Nat} {h r h' r' : List Int} {R R' : List (List Int)} (w : World) (u : Rd w ⟨A4, h.length, c4⟩ ⟨A5, r.length, c5⟩ ⟨A6, R.length, c6⟩ h r R) (u' : Rd w ⟨B4, h'.length, d4⟩ ⟨B5, r'.length, d5⟩ ⟨B6, R'.length, d6⟩ h' r' R')
  (L : Aside0 (h.length = 8 ∧ r.length = 8 ∧ R.length = 2 ∧ h'.length = 8 ∧ r'.length = 8 ∧ R'.length = 2)) (CA CS LM HM : Int) (a1 : Aside0 (spec_Add.f c c' = some CA)) (a2 : Aside0 (spec_Add.f s s' = some CS)) (a3 : Aside0 (spec_l1Min.f lo lo' = some LM)) (a4 : Aside0 (spec_l1Max.f hi hi' = some HM))
  (HZ Z0 Z1 : List Int) (a5 : Aside0 (spec_l3Sum.f k h h' = some HZ)) (a6 : Aside0 (spec_l3Sum.f k (R.getD 0 []) (R'.getD 0 []) = some Z0)) (a7 : Aside0 (spec_l3Sum.f k (R.getD 1 []) (R'.getD 1 []) = some Z1)) (m1 m2 : Int) (HQ1 : Aside0 (((c == 0) = true ∧ m1 = lo') ∨ ((c == 0) = false ∧ m1 = LM))) (HQ2 : Aside0 (((c' == 0) = true ∧ m2 = lo) ∨ ((c' == 0) = false ∧ m2 = m1)))
  (RZ : List Int) (a8 : Aside0 (RZ.length = 8 ∧ ∀ i, i < 8 → spec_l1Max.f (r.getD i 0) (r'.getD i 0) = some (RZ.getD i 0))) (lz : HZ.length = 8 ∧ Z0.length = 4 ∧ Z1.length = 4) :
  Calls Try.prog 51 #[.agg #[.int .i64 c, .int .i64 s, .int .i64 lo, .int .i64 hi, .slice A4 h.length c4, .slice A5 r.length c5, .slice A6 R.length c6], .agg #[.int .i64 c', .int .i64 s', .int .i64 lo', .int .i64 hi', .slice B4 h'.length d4, .slice B5 r'.length d5, .slice B6 R'.length d6]] w (fun e w' => ∃ (x y z : Sl) (a b : Nat), e = .returned (.agg #[.int .i64 CA, .int .i64 CS, .int .i64 m2, .int .i64 HM, .slice x.A x.n x.c, .slice y.A y.n y.c, .slice z.A z.n z.c]) ∧ Sk w' a b x y z HZ RZ [Z0, Z1] ∧ Made w w' a b ∧ Below w.heap.size w w') := by
 have U := Aside0.mk u
 have U' := Aside0.mk u'
 clear u u'
 obtain ⟨ra, X0, x0_, X1, x1_, hA6, ra0, ra1, rle0, rle1, rC0, rC1⟩ := rows2 (c := 0) U.out.C6 L.out.2.2.1
 obtain ⟨rb, Y0, y0_, Y1, y1_, hB6, rb0, rb1, sle0, sle1, sC0, sC1⟩ := rows2 (c := 0) U'.out.C6 L.out.2.2.2.2.2
 have ra0 : w.cell? ra = some (.slice X0 (R.getD 0 []).length x0_) := ra0
 have rb0 : w.cell? rb = some (.slice Y0 (R'.getD 0 []).length y0_) := rb0
 have hA6 : A6 = some ra := hA6
 have hB6 : B6 = some rb := hB6
 subst hA6
 subst hB6
 obtain ⟨AA, hAA⟩ : ∃ a : Array Value, a = #[.int .i64 c, .int .i64 s, .int .i64 lo, .int .i64 hi, .slice A4 h.length c4, .slice A5 r.length c5, .slice (some ra) R.length c6] := ⟨_, rfl⟩
 obtain ⟨BB, hBB⟩ : ∃ a : Array Value, a = #[.int .i64 c', .int .i64 s', .int .i64 lo', .int .i64 hi', .slice B4 h'.length d4, .slice B5 r'.length d5, .slice (some rb) R'.length d6] := ⟨_, rfl⟩
 have F0 := Aside0.mk (show L3F w (((w.alloc (.cells #[.int .i64 c, .int .i64 s, .int .i64 lo, .int .i64 hi, .slice A4 h.length c4, .slice A5 r.length c5, .slice (some ra) R.length c6] 26)).alloc (.cells #[.int .i64 c', .int .i64 s', .int .i64 lo', .int .i64 hi', .slice B4 h'.length d4, .slice B5 r'.length d5, .slice (some rb) R'.length d6] 26)).alloc (.cells #[.int .i64 0, .int .i64 0, .int .i64 0, .int .i64 0, .slice none 0 0, .slice none 0 0, .slice none 0 0] 26)) AA BB from by subst hAA hBB; exact ⟨(Bx.new w 26 #[.int .i64 c, .int .i64 s, .int .i64 lo, .int .i64 hi, .slice A4 h.length c4, .slice A5 r.length c5, .slice (some ra) R.length c6]).below (below_alloc (below_alloc (Below.refl _ _) _) _), ((show (w.alloc (.cells #[.int .i64 c, .int .i64 s, .int .i64 lo, .int .i64 hi, .slice A4 h.length c4, .slice A5 r.length c5, .slice (some ra) R.length c6] 26)).heap.size = w.heap.size + 1 by simp) ▸ Bx.new (w.alloc (.cells #[.int .i64 c, .int .i64 s, .int .i64 lo, .int .i64 hi, .slice A4 h.length c4, .slice A5 r.length c5, .slice (some ra) R.length c6] 26)) 26 #[.int .i64 c', .int .i64 s', .int .i64 lo', .int .i64 hi', .slice B4 h'.length d4, .slice B5 r'.length d5, .slice (some rb) R'.length d6] : Bx _ (w.heap.size + 1) _ _).below (below_alloc (Below.refl _ _) _), ((show ((w.alloc (.cells #[.int .i64 c, .int .i64 s, .int .i64 lo, .int .i64 hi, .slice A4 h.length c4, .slice A5 r.length c5, .slice (some ra) R.length c6] 26)).alloc (.cells #[.int .i64 c', .int .i64 s', .int .i64 lo', .int .i64 hi', .slice B4 h'.length d4, .slice B5 r'.length d5, .slice (some rb) R'.length d6] 26)).heap.size = w.heap.size + 2 by simp) ▸ Bx.new ((w.alloc (.cells #[.int .i64 c, .int .i64 s, .int .i64 lo, .int .i64 hi, .slice A4 h.length c4, .slice A5 r.length c5, .slice (some ra) R.length c6] 26)).alloc (.cells #[.int .i64 c', .int .i64 s', .int .i64 lo', .int .i64 hi', .slice B4 h'.length d4, .slice B5 r'.length d5, .slice (some rb) R'.length d6] 26)) 26 #[.int .i64 0, .int .i64 0, .int .i64 0, .int .i64 0, .slice none 0 0, .slice none 0 0, .slice none 0 0] : Bx _ (w.heap.size + 2) _ _), below_alloc (below_alloc (below_alloc (Below.refl _ _) _) _) _⟩)
 have LS := Aside0.mk (show ∀ W, L3F w W AA BB → (fun w' => w'.cell? ⟨w.heap.size, 0, none⟩ = some (.int .i64 c) ∧ w'.cell? ⟨w.heap.size, 1, none⟩ = some (.int .i64 s) ∧ w'.cell? ⟨w.heap.size, 2, none⟩ = some (.int .i64 lo) ∧ w'.cell? ⟨w.heap.size, 3, none⟩ = some (.int .i64 hi) ∧ w'.cell? ⟨w.heap.size, 4, none⟩ = some (.slice A4 h.length c4) ∧ w'.cell? ⟨w.heap.size, 6, none⟩ = some (.slice (some ra) R.length c6) ∧ w'.cell? ⟨w.heap.size + 1, 0, none⟩ = some (.int .i64 c') ∧ w'.cell? ⟨w.heap.size + 1, 1, none⟩ = some (.int .i64 s') ∧ w'.cell? ⟨w.heap.size + 1, 2, none⟩ = some (.int .i64 lo') ∧ w'.cell? ⟨w.heap.size + 1, 3, none⟩ = some (.int .i64 hi') ∧ w'.cell? ⟨w.heap.size + 1, 4, none⟩ = some (.slice B4 h'.length d4) ∧ w'.cell? ⟨w.heap.size + 1, 6, none⟩ = some (.slice (some rb) R'.length d6) ∧ w'.cell? (ra) = some (.slice X0 (R.getD 0 []).length x0_) ∧ w'.cell? (⟨ra.block, ra.off + 1, none⟩) = some (.slice X1 (R.getD 1 []).length x1_) ∧ w'.cell? (rb) = some (.slice Y0 (R'.getD 0 []).length y0_) ∧ w'.cell? (⟨rb.block, rb.off + 1, none⟩) = some (.slice Y1 (R'.getD 1 []).length y1_)) W from fun W F => by subst hAA hBB; exact ⟨F.a.cells.1, F.a.cells.2.1, F.a.cells.2.2.1, F.a.cells.2.2.2.1, F.a.cells.2.2.2.2.1, F.a.cells.2.2.2.2.2.2, F.b.cells.1, F.b.cells.2.1, F.b.cells.2.2.1, F.b.cells.2.2.2.1, F.b.cells.2.2.2.2.1, F.b.cells.2.2.2.2.2.2, pw_cell_below F.l ra0, pw_cell_below F.l ra1, pw_cell_below F.l rb0, pw_cell_below F.l rb1⟩)
 have HAA := Aside0.mk hAA
 have HBB := Aside0.mk hBB
 clear hAA hBB
 have RC := Aside0.mk (And.intro rle0 (And.intro rle1 (And.intro sle0 (And.intro sle1 (And.intro rC0 (And.intro rC1 (And.intro sC0 sC1)))))))
 clear ra0 ra1 rb0 rb1 rle0 rle1 sle0 sle1 rC0 rC1 sC0 sC1
 have p0 : (0 : Int) < (R.length : Int) := by have := L.out; omega
 have pn0 : 0 < R.length := by have := L.out; omega
 have p1 : (1 : Int) < (R.length : Int) := by have := L.out; omega
 have pn1 : 1 < R.length := by have := L.out; omega
 have q0 : (0 : Int) < (R'.length : Int) := by have := L.out; omega
 have qn0 : 0 < R'.length := by have := L.out; omega
 have q1 : (1 : Int) < (R'.length : Int) := by have := L.out; omega
 have qn1 : 1 < R'.length := by have := L.out; omega
 go_enter Try.func51, Try.ntmps51
 go_upto_region 1 with (fail)
 go_cut [5] (fun v5 wc => ∃ gB g5 q5 gl : Nat, v5 = .pointer (some ⟨gB, 0, none⟩) ∧ Aside0 (L3I w wc AA BB gB wc.heap.size #[.int .i64 CA, .int .i64 CS, .int .i64 LM, .int .i64 HM, .slice (some ⟨g5, 0, none⟩) HZ.length q5, .slice none 0 0, .slice (some ⟨gl, 0, none⟩) 2 2] (.slice (some ⟨g5, 0, none⟩) HZ.length q5) (.slice none 0 0) (.slice (some ⟨gl, 0, none⟩) 2 2) HZ [] [Z0, Z1]))
 case first =>
  have K5 := Aside0.mk (fun W (F : L3F w W AA BB) => spec_l3Sum.calls k _ _ h _ _ h' HZ W (U.out.below F.l).C4 (by have := U.out.l4; exact this) (U'.out.below F.l).C4 (by have := U'.out.l4; exact this) a5.out)
  have K6 := Aside0.mk (fun W (F : L3F w W AA BB) => spec_l3Sum.calls k _ _ (R.getD 0 []) _ _ (R'.getD 0 []) Z0 W (Kd.C_below RC.out.2.2.2.2.1 F.l) RC.out.1 (Kd.C_below RC.out.2.2.2.2.2.2.1 F.l) RC.out.2.2.1 a6.out)
  have K7 := Aside0.mk (fun W (F : L3F w W AA BB) => spec_l3Sum.calls k _ _ (R.getD 1 []) _ _ (R'.getD 1 []) Z1 W (Kd.C_below RC.out.2.2.2.2.2.1 F.l) RC.out.2.1 (Kd.C_below RC.out.2.2.2.2.2.2.2 F.l) RC.out.2.2.2.1 a7.out)
  clear U U' RC ra0 rb0
  generalize (R.getD 0 []).length = n0 at LS K6 K7
  generalize (R.getD 1 []).length = n1 at LS K6 K7
  generalize (R'.getD 0 []).length = o0 at LS K6 K7
  generalize (R'.getD 1 []).length = o1 at LS K6 K7
  have hW0 : w.heap.size + 3 ≤ ((((w.alloc (.cells #[.int .i64 c, .int .i64 s, .int .i64 lo, .int .i64 hi, .slice A4 h.length c4, .slice A5 r.length c5, .slice (some ra) R.length c6] 26)).alloc (.cells #[.int .i64 c', .int .i64 s', .int .i64 lo', .int .i64 hi', .slice B4 h'.length d4, .slice B5 r'.length d5, .slice (some rb) R'.length d6] 26)).alloc (.cells #[.int .i64 0, .int .i64 0, .int .i64 0, .int .i64 0, .slice none 0 0, .slice none 0 0, .slice none 0 0] 26))).heap.size := by simp
  generalize (((w.alloc (.cells #[.int .i64 c, .int .i64 s, .int .i64 lo, .int .i64 hi, .slice A4 h.length c4, .slice A5 r.length c5, .slice (some ra) R.length c6] 26)).alloc (.cells #[.int .i64 c', .int .i64 s', .int .i64 lo', .int .i64 hi', .slice B4 h'.length d4, .slice B5 r'.length d5, .slice (some rb) R'.length d6] 26)).alloc (.cells #[.int .i64 0, .int .i64 0, .int .i64 0, .int .i64 0, .slice none 0 0, .slice none 0 0, .slice none 0 0] 26)) = W0 at *
  have F4 := Aside0.mk (F0.out.below (below_drew (Below.refl _ _)))
  have z4 : w.heap.size + 3 ≤ W0.drew.heap.size := hW0
  have s4 := z4
  have ZL := Aside0.mk lz
  clear lz
  go_region_held3 (fun w' => w'.cell? ⟨w.heap.size, 0, none⟩ = some (.int .i64 c) ∧ w'.cell? ⟨w.heap.size, 1, none⟩ = some (.int .i64 s) ∧ w'.cell? ⟨w.heap.size, 2, none⟩ = some (.int .i64 lo) ∧ w'.cell? ⟨w.heap.size, 3, none⟩ = some (.int .i64 hi) ∧ w'.cell? ⟨w.heap.size, 4, none⟩ = some (.slice A4 h.length c4) ∧ w'.cell? ⟨w.heap.size, 6, none⟩ = some (.slice (some ra) R.length c6) ∧ w'.cell? ⟨w.heap.size + 1, 0, none⟩ = some (.int .i64 c') ∧ w'.cell? ⟨w.heap.size + 1, 1, none⟩ = some (.int .i64 s') ∧ w'.cell? ⟨w.heap.size + 1, 2, none⟩ = some (.int .i64 lo') ∧ w'.cell? ⟨w.heap.size + 1, 3, none⟩ = some (.int .i64 hi') ∧ w'.cell? ⟨w.heap.size + 1, 4, none⟩ = some (.slice B4 h'.length d4) ∧ w'.cell? ⟨w.heap.size + 1, 6, none⟩ = some (.slice (some rb) R'.length d6) ∧ w'.cell? (ra) = some (.slice X0 n0 x0_) ∧ w'.cell? (⟨ra.block, ra.off + 1, none⟩) = some (.slice X1 n1 x1_) ∧ w'.cell? (rb) = some (.slice Y0 o0 y0_) ∧ w'.cell? (⟨rb.block, rb.off + 1, none⟩) = some (.slice Y1 o1 y1_)) (first | with_reducible exact FL.out _ _ _ _ _ _ _ _ | with_reducible exact LS.out _ (F0.out.below (below_drew (below_alloc (Below.refl _ W0) (.cells #[.int .i64 0, .int .i64 0, .int .i64 0, .int .i64 0, .slice none 0 0, .slice none 0 0, .slice none 0 0] 26)))) | with_reducible exact LS.out _ F4.out | with_reducible exact LS.out _ (F4.out.below (below_alloc (Below.refl _ _) (.cells #[.int .i64 0, .int .i64 0, .int .i64 0, .int .i64 0, .slice none 0 0, .slice none 0 0, .slice none 0 0] 26))) | with_reducible exact LS.out _ F5.out | with_reducible exact LS.out _ (F5.out.below (below_alloc (Below.refl _ _) (.cells #[.int .i64 0, .int .i64 0, .int .i64 0, .int .i64 0, .slice none 0 0, .slice none 0 0, .slice none 0 0] 26))) | with_reducible exact LS.out _ F6.out | with_reducible exact LS.out _ (F6.out.below (below_alloc (Below.refl _ _) (.cells #[.int .i64 0, .int .i64 0, .int .i64 0, .int .i64 0, .slice none 0 0, .slice none 0 0, .slice none 0 0] 26))) | with_reducible exact LS.out _ F7.out | with_reducible exact LS.out _ (F7.out.below (below_alloc (Below.refl _ _) (.cells #[.int .i64 0, .int .i64 0, .int .i64 0, .int .i64 0, .slice none 0 0, .slice none 0 0, .slice none 0 0] 26))) | with_reducible exact LS.out _ (F7.out.below (below_alloc (Below.refl _ _) _)) | with_reducible exact LS.out _ (F7.out.below (below_alloc (below_alloc (Below.refl _ _) _) _))) (first | (go_at_call 84; (with_reducible refine (spec_Add.still c c' CA _ a1.out).mono ?_); rintro e wq ⟨rfl, rfl⟩) | (go_at_call 84; (with_reducible refine (spec_Add.still s s' CS _ a2.out).mono ?_); rintro e wq ⟨rfl, rfl⟩) | (go_at_call 85; (with_reducible refine (spec_l1Min.still lo lo' LM _ a3.out).mono ?_); rintro e wq ⟨rfl, rfl⟩) | (go_at_call 86; (with_reducible refine (spec_l1Max.still hi hi' HM _ a4.out).mono ?_); rintro e wq ⟨rfl, rfl⟩) | (go_at_call 87; (with_reducible refine (K5.out _ F4.out).mono ?_); rintro e w5 ⟨v5, rfl, hr, hb⟩; obtain ⟨g5, q5, rfl, lo5, lt5, _⟩ := Kd.R_form hr (by have := ZL.out; omega); have sz5 := hb.size; (first | (replace Y := Aside0.mk (Y.out.below hb)) | skip); have F5 := Aside0.mk (F4.out.below hb); have J5 := Aside0.mk (row_to hr (Below.refl _ _) s4); have s5 := Nat.le_trans s4 hb.size; clear F4 hr hb) | (go_at_call 87; (with_reducible refine (K5.out _ (F4.out.below (below_alloc (Below.refl _ _) (.cells #[.int .i64 0, .int .i64 0, .int .i64 0, .int .i64 0, .slice none 0 0, .slice none 0 0, .slice none 0 0] 26)))).mono ?_); rintro e w5 ⟨v5, rfl, hr, hb⟩; obtain ⟨g5, q5, rfl, lo5, lt5, _⟩ := Kd.R_form hr (by have := ZL.out; omega); have sz5 := hb.size; have Y := Aside0.mk (show Bx w5 W0.heap.size 26 #[.int .i64 0, .int .i64 0, .int .i64 0, .int .i64 0, .slice none 0 0, .slice none 0 0, .slice none 0 0] from (Bx.new W0.drew 26 #[.int .i64 0, .int .i64 0, .int .i64 0, .int .i64 0, .slice none 0 0, .slice none 0 0, .slice none 0 0]).below hb); have y0 : w.heap.size + 2 < W0.drew.heap.size := (by omega); have hb := below_step (below_alloc (Below.refl _ _) (.cells #[.int .i64 0, .int .i64 0, .int .i64 0, .int .i64 0, .slice none 0 0, .slice none 0 0, .slice none 0 0] 26)) hb; replace lo5 := sz_alloc1 lo5; replace sz5 := sz_alloc1 sz5; have F5 := Aside0.mk (F4.out.below hb); have J5 := Aside0.mk (row_to hr (Below.refl _ _) (Nat.le_trans s4 (sz_alloc _ _))); have s5 := Nat.le_trans s4 hb.size; clear F4 hr hb) | (go_at_call 87; (with_reducible refine (K5.out _ (F0.out.below (below_drew (below_alloc (Below.refl _ W0) (.cells #[.int .i64 0, .int .i64 0, .int .i64 0, .int .i64 0, .slice none 0 0, .slice none 0 0, .slice none 0 0] 26))))).mono ?_); rintro e w5 ⟨v5, rfl, hr, hb⟩; obtain ⟨g5, q5, rfl, lo5, lt5, _⟩ := Kd.R_form hr (by have := ZL.out; omega); have sz5 := hb.size; have Y := Aside0.mk (show Bx w5 W0.heap.size 26 #[.int .i64 0, .int .i64 0, .int .i64 0, .int .i64 0, .slice none 0 0, .slice none 0 0, .slice none 0 0] from ((Bx.new W0 26 #[.int .i64 0, .int .i64 0, .int .i64 0, .int .i64 0, .slice none 0 0, .slice none 0 0, .slice none 0 0]).below (below_drew (Below.refl _ _))).below hb); have y0 : w.heap.size + 2 < W0.heap.size := (by omega); have J5 := Aside0.mk (row_to hr (Below.refl _ _) (Nat.le_trans hW0 (sz_alloc W0 (.cells #[.int .i64 0, .int .i64 0, .int .i64 0, .int .i64 0, .slice none 0 0, .slice none 0 0, .slice none 0 0] 26)))); have hb := below_step (below_drew (below_alloc (Below.refl _ W0) (.cells #[.int .i64 0, .int .i64 0, .int .i64 0, .int .i64 0, .slice none 0 0, .slice none 0 0, .slice none 0 0] 26))) hb; replace lo5 := sz_alloc1 (w := W0) (o := (.cells #[.int .i64 0, .int .i64 0, .int .i64 0, .int .i64 0, .slice none 0 0, .slice none 0 0, .slice none 0 0] 26)) lo5; replace sz5 := sz_alloc1 (w := W0) (o := (.cells #[.int .i64 0, .int .i64 0, .int .i64 0, .int .i64 0, .slice none 0 0, .slice none 0 0, .slice none 0 0] 26)) sz5; have F5 := Aside0.mk (F0.out.below hb); have s5 := Nat.le_trans hW0 hb.size; clear F4 hr hb) | (go_at_call 87; (with_reducible refine (K6.out _ F5.out).mono ?_); rintro e w6 ⟨v6, rfl, hr, hb⟩; obtain ⟨g6, q6, rfl, lo6, lt6, _⟩ := Kd.R_form hr (by have := ZL.out; omega); have sz6 := hb.size; (first | (replace Y := Aside0.mk (Y.out.below hb)) | skip); have F6 := Aside0.mk (F5.out.below hb); have J6 := Aside0.mk (row_to hr (Below.refl _ _) s5); have s6 := Nat.le_trans s5 hb.size; replace J5 := Aside0.mk (Kd.R_below J5.out hb); clear F5 hr hb) | (go_at_call 87; (with_reducible refine (K6.out _ (F5.out.below (below_alloc (Below.refl _ _) (.cells #[.int .i64 0, .int .i64 0, .int .i64 0, .int .i64 0, .slice none 0 0, .slice none 0 0, .slice none 0 0] 26)))).mono ?_); rintro e w6 ⟨v6, rfl, hr, hb⟩; obtain ⟨g6, q6, rfl, lo6, lt6, _⟩ := Kd.R_form hr (by have := ZL.out; omega); have sz6 := hb.size; have Y := Aside0.mk (show Bx w6 w5.heap.size 26 #[.int .i64 0, .int .i64 0, .int .i64 0, .int .i64 0, .slice none 0 0, .slice none 0 0, .slice none 0 0] from (Bx.new w5 26 #[.int .i64 0, .int .i64 0, .int .i64 0, .int .i64 0, .slice none 0 0, .slice none 0 0, .slice none 0 0]).below hb); have y0 : w.heap.size + 2 < w5.heap.size := (by omega); have hb := below_step (below_alloc (Below.refl _ _) (.cells #[.int .i64 0, .int .i64 0, .int .i64 0, .int .i64 0, .slice none 0 0, .slice none 0 0, .slice none 0 0] 26)) hb; replace lo6 := sz_alloc1 lo6; replace sz6 := sz_alloc1 sz6; have F6 := Aside0.mk (F5.out.below hb); have J6 := Aside0.mk (row_to hr (Below.refl _ _) (Nat.le_trans s5 (sz_alloc _ _))); have s6 := Nat.le_trans s5 hb.size; replace J5 := Aside0.mk (Kd.R_below J5.out hb); clear F5 hr hb) | (go_at_call 87; (with_reducible refine (K7.out _ F6.out).mono ?_); rintro e w7 ⟨v7, rfl, hr, hb⟩; obtain ⟨g7, q7, rfl, lo7, lt7, _⟩ := Kd.R_form hr (by have := ZL.out; omega); have sz7 := hb.size; (first | (replace Y := Aside0.mk (Y.out.below hb)) | skip); have F7 := Aside0.mk (F6.out.below hb); have J7 := Aside0.mk (row_to hr (Below.refl _ _) s6); have s7 := Nat.le_trans s6 hb.size; replace J5 := Aside0.mk (Kd.R_below J5.out hb); replace J6 := Aside0.mk (Kd.R_below J6.out hb); (first | (obtain ⟨c0, c1, c2, c3, c4_, c5_, c6_⟩ := Y.out.cellsA; have cf := fun (o : Obj) i => Bx.fz (Y.out.below (below_alloc (Below.refl _ _) o)) i; have FL := Aside0.mk (fun (o : Obj) u0 u1 u2 u3 u4 u5 u6 => LS.out _ (L3F.kp (F7.out.below (below_alloc (Below.refl _ _) o)) ((Y.out.below (below_alloc (Below.refl _ _) o)).fill u0 u1 u2 u3 u4 u5 u6).2 (by omega)))) | skip); clear F6 hr hb) | (go_at_call 87; (with_reducible refine (K7.out _ (F6.out.below (below_alloc (Below.refl _ _) (.cells #[.int .i64 0, .int .i64 0, .int .i64 0, .int .i64 0, .slice none 0 0, .slice none 0 0, .slice none 0 0] 26)))).mono ?_); rintro e w7 ⟨v7, rfl, hr, hb⟩; obtain ⟨g7, q7, rfl, lo7, lt7, _⟩ := Kd.R_form hr (by have := ZL.out; omega); have sz7 := hb.size; have Y := Aside0.mk (show Bx w7 w6.heap.size 26 #[.int .i64 0, .int .i64 0, .int .i64 0, .int .i64 0, .slice none 0 0, .slice none 0 0, .slice none 0 0] from (Bx.new w6 26 #[.int .i64 0, .int .i64 0, .int .i64 0, .int .i64 0, .slice none 0 0, .slice none 0 0, .slice none 0 0]).below hb); have y0 : w.heap.size + 2 < w6.heap.size := (by omega); have hb := below_step (below_alloc (Below.refl _ _) (.cells #[.int .i64 0, .int .i64 0, .int .i64 0, .int .i64 0, .slice none 0 0, .slice none 0 0, .slice none 0 0] 26)) hb; replace lo7 := sz_alloc1 lo7; replace sz7 := sz_alloc1 sz7; have F7 := Aside0.mk (F6.out.below hb); have J7 := Aside0.mk (row_to hr (Below.refl _ _) (Nat.le_trans s6 (sz_alloc _ _))); have s7 := Nat.le_trans s6 hb.size; replace J5 := Aside0.mk (Kd.R_below J5.out hb); replace J6 := Aside0.mk (Kd.R_below J6.out hb); (first | (obtain ⟨c0, c1, c2, c3, c4_, c5_, c6_⟩ := Y.out.cellsA; have cf := fun (o : Obj) i => Bx.fz (Y.out.below (below_alloc (Below.refl _ _) o)) i; have FL := Aside0.mk (fun (o : Obj) u0 u1 u2 u3 u4 u5 u6 => LS.out _ (L3F.kp (F7.out.below (below_alloc (Below.refl _ _) o)) ((Y.out.below (below_alloc (Below.refl _ _) o)).fill u0 u1 u2 u3 u4 u5 u6).2 (by omega)))) | skip); clear F6 hr hb))
  all_goals
   have z9 := F7.out.l.size
   refine Met.intro ?_
   go_step
   go_meet
   case rel =>
    first
     | ((with_reducible refine ⟨_, _, _, _, rfl, ⟨l3_finC F7.out Y.out J5.out J6.out J7.out ?_⟩⟩); omega)
     | ((with_reducible refine ⟨_, _, _, _, rfl, ⟨l3_finA F7.out J5.out J6.out J7.out ?_⟩⟩); omega)
     | ((with_reducible refine ⟨_, _, _, _, rfl, ⟨l3_finB F7.out J5.out J6.out J7.out ?_⟩⟩); omega)
 case rest =>
  obtain ⟨gB, g5, q5, gl, rfl, M⟩ := hcut
  clear F0 LS RC
  have ZL2 := Aside0.mk lz
  clear lz
  generalize hn0 : wc.heap.size = n0 at *
  clear hn0
  have e1 : w.heap.size ≠ gB := by have := M.out.lo; omega
  have e2 : w.heap.size + 1 ≠ gB := by have := M.out.lo; omega
  have e3 : gB ≠ w.heap.size := by have := M.out.lo; omega
  have e4 : gB ≠ w.heap.size + 1 := by have := M.out.lo; omega
  have ba := M.out.F.a
  have bb := M.out.F.b
  rw [HAA.out] at ba
  rw [HBB.out] at bb
  obtain ⟨x0, x1, x2, x3, x4, x5, x6⟩ := ba.cells
  obtain ⟨y0, y1, y2, y3, y4, y5, y6⟩ := bb.cells
  clear ba bb
  obtain ⟨z0, z1, z2, z3, z4_, z5, z6⟩ := M.out.X.cells
  have fz := M.out.X.fz
  go_upto_if 54 with (fail)
  clear x0 x1 x2 x3 x4 x5 x6 y0 y1 y2 y3 y4 y5 y6 z0 z1 z2 z3 z4_ z5 z6 fz
  go_cut [] (fun wd => Aside0 (L3I w wd AA BB gB n0 #[.int .i64 CA, .int .i64 CS, .int .i64 m1, .int .i64 HM, .slice (some ⟨g5, 0, none⟩) HZ.length q5, .slice none 0 0, .slice (some ⟨gl, 0, none⟩) 2 2] (.slice (some ⟨g5, 0, none⟩) HZ.length q5) (.slice none 0 0) (.slice (some ⟨gl, 0, none⟩) 2 2) HZ [] [Z0, Z1]))
  case first =>
   obtain ⟨q, hm⟩ | ⟨q, hm⟩ := HQ1.out
   all_goals
    have HM2 := Aside0.mk hm;clear hm;have ba := M.out.F.a;have bb := M.out.F.b;rw [HAA.out] at ba;rw [HBB.out] at bb;obtain ⟨x0, x1, x2, x3, x4, x5, x6⟩ := ba.cells;obtain ⟨y0, y1, y2, y3, y4, y5, y6⟩ := bb.cells;clear ba bb;obtain ⟨z0, z1, z2, z3, z4_, z5, z6⟩ := M.out.X.cells;have fz := M.out.X.fz
    go_wp2_with fail
    go_meet
    case rel =>
     rw [HM2.out]
     first
      | exact ⟨M.out.set 2 (.int .i64 lo') rfl⟩
      | exact M
  case rest =>
   clear M
   have M := hcut
   clear hcut
   have ba := M.out.F.a
   have bb := M.out.F.b
   rw [HAA.out] at ba
   rw [HBB.out] at bb
   obtain ⟨x0, x1, x2, x3, x4, x5, x6⟩ := ba.cells
   obtain ⟨y0, y1, y2, y3, y4, y5, y6⟩ := bb.cells
   clear ba bb
   obtain ⟨z0, z1, z2, z3, z4_, z5, z6⟩ := M.out.X.cells
   have fz := M.out.X.fz
   go_upto_if 60 with (fail)
   clear x0 x1 x2 x3 x4 x5 x6 y0 y1 y2 y3 y4 y5 y6 z0 z1 z2 z3 z4_ z5 z6 fz
   go_cut [] (fun wd => Aside0 (L3I w wd AA BB gB n0 #[.int .i64 CA, .int .i64 CS, .int .i64 m2, .int .i64 HM, .slice (some ⟨g5, 0, none⟩) HZ.length q5, .slice none 0 0, .slice (some ⟨gl, 0, none⟩) 2 2] (.slice (some ⟨g5, 0, none⟩) HZ.length q5) (.slice none 0 0) (.slice (some ⟨gl, 0, none⟩) 2 2) HZ [] [Z0, Z1]))
   case first =>
    obtain ⟨q, hm⟩ | ⟨q, hm⟩ := HQ2.out
    all_goals
     have HM2 := Aside0.mk hm;clear hm;have ba := M.out.F.a;have bb := M.out.F.b;rw [HAA.out] at ba;rw [HBB.out] at bb;obtain ⟨x0, x1, x2, x3, x4, x5, x6⟩ := ba.cells;obtain ⟨y0, y1, y2, y3, y4, y5, y6⟩ := bb.cells;clear ba bb;obtain ⟨z0, z1, z2, z3, z4_, z5, z6⟩ := M.out.X.cells;have fz := M.out.X.fz
     go_wp2_with fail
     go_meet
     case rel =>
      rw [HM2.out]
      first
       | exact ⟨M.out.set 2 (.int .i64 lo) rfl⟩
       | exact M
   case rest =>
    clear M;have M := hcut;clear hcut;have RL := Aside0.mk (And.intro M.out.lo M.out.hi);have U0 := Aside0.mk U.out
    go_wp2
    go_loopg [6] 9 (fun gg s6 wr => ∃ (i : Nat) (A5_ : Option Addr) (c5_ : Nat), i ≤ 8 ∧ 8 - i + 1 ≤ gg ∧ s6 = .int .i64 (i : Int) ∧ Aside0 (L3I w wr AA BB gB n0 #[.int .i64 CA, .int .i64 CS, .int .i64 m2, .int .i64 HM, .slice (some ⟨g5, 0, none⟩) HZ.length q5, .slice A5_ i c5_, .slice (some ⟨gl, 0, none⟩) 2 2] (.slice (some ⟨g5, 0, none⟩) HZ.length q5) (.slice A5_ i c5_) (.slice (some ⟨gl, 0, none⟩) 2 2) HZ (RZ.take i) [Z0, Z1]))
    case atStart => exact ⟨0, none, 0, by omega, by omega, rfl, M⟩
    case round =>
     clear M;obtain ⟨i, A5_, c5_, hi, hgk, rfl, M⟩ := hrel
     by_cases hlt : i < 8
     ·have hd : decide ((i : Int) < 8) = true := decide_eq_true (by omega)
      have h0 : (0 : Int) ≤ (i : Int) := by omega
      have hr1 : (i : Int) < (r.length : Int) := by have := L.out; omega
      have hr2 : (i : Int) < (r'.length : Int) := by have := L.out; omega
      obtain ⟨ad, eA, gw⟩ := ints_at U.out.C5 i (by have := L.out; omega);obtain ⟨ad', eA', gw'⟩ := ints_at U'.out.C5 i (by have := L.out; omega);have eA : A5 = some ad := eA;have eA' : B5 = some ad' := eA';subst eA eA';have h8 := a8.out.2 i hlt;have T8 := Aside0.mk (show RZ.take i ++ [RZ.getD i 0] = RZ.take (i + 1) from by rw [List.take_succ_eq_append_getElem (by rw [a8.out.1]; exact hlt), List.getD_eq_getElem?_getD, List.getElem?_eq_getElem (by rw [a8.out.1]; exact hlt)]; rfl);have TL1 := Aside0.mk (show (RZ.take (i + 1)).length = i + 1 from by rw [List.length_take, a8.out.1]; omega);have TL := Aside0.mk (show (RZ.take i).length = i from by rw [List.length_take, a8.out.1]; omega);generalize r.getD i 0 = v1 at gw h8;generalize r'.getD i 0 = v2 at gw' h8;generalize RZ.getD i 0 = v3 at T8 h8;have H8 := Aside0.mk h8;clear h8;have ba := M.out.F.a;have bb := M.out.F.b;rw [HAA.out] at ba;rw [HBB.out] at bb;obtain ⟨x0, x1, x2, x3, x4, x5, x6⟩ := ba.cells;obtain ⟨y0, y1, y2, y3, y4, y5, y6⟩ := bb.cells;clear ba bb;obtain ⟨z0, z1, z2, z3, z4_, z5, z6⟩ := M.out.X.cells;have fz := M.out.X.fz;have kw := World.block_lt_of_cell? w _ gw;have kw' := World.block_lt_of_cell? w _ gw';have gA := (M.out.F.l.cell (p := ad.add i) kw).trans gw;have gA' := (M.out.F.l.cell (p := ad'.add i) kw').trans gw';have LS := Aside0.mk (show ∀ W' : World, (∀ k, k < n0 → k ≠ gB → W'.heap[k]? = wr.heap[k]?) → (fun w' : World => w'.cell? ⟨w.heap.size, 5, none⟩ = some (.slice (some ad) r.length c5) ∧ w'.cell? ⟨w.heap.size + 1, 5, none⟩ = some (.slice (some ad') r'.length d5) ∧ w'.cell? (ad.add i) = some (.int .i64 v1) ∧ w'.cell? (ad'.add i) = some (.int .i64 v2)) W' from fun W' h => ⟨cell_same x5 (h _ (by have := RL.out; show w.heap.size < n0; omega) (by have := RL.out; show w.heap.size ≠ gB; omega)), cell_same y5 (h _ (by have := RL.out; show w.heap.size + 1 < n0; omega) (by have := RL.out; show w.heap.size + 1 ≠ gB; omega)), cell_same gA (h _ (Nat.lt_trans kw (by have := RL.out; omega)) (Nat.ne_of_lt (Nat.lt_trans kw (by have := RL.out; omega)))), cell_same gA' (h _ (Nat.lt_trans kw' (by have := RL.out; omega)) (Nat.ne_of_lt (Nat.lt_trans kw' (by have := RL.out; omega))))⟩)
      have zo : ∀ o, (wr.drew.alloc o).cell? ⟨gB, 5, none⟩ = some (.slice A5_ i c5_) := fun o => (M.out.drew.X.below (below_alloc (Below.refl _ _) o)).cells.2.2.2.2.2.1
      have zo2 : ∀ o, (wr.alloc o).cell? ⟨gB, 5, none⟩ = some (.slice A5_ i c5_) := fun o => (M.out.X.below (below_alloc (Below.refl _ _) o)).cells.2.2.2.2.2.1
      have NN := Aside0.mk M.out.n;clear kw kw' gw gw' x0 x1 x2 x3 x4 x6 y0 y1 y2 y3 y4 y6 z0 z1 z2 z3 z4_ z6 fz
      go_wp2_with fail
      have hl3 : l3ld = Op.load 23 (Operand.tmp 68) := rfl;rw [show Op.load 23 (Operand.tmp 68) = l3ld from rfl]
      go_region_held_law (fun w' : World => w'.cell? ⟨w.heap.size, 5, none⟩ = some (.slice (some ad) r.length c5) ∧ w'.cell? ⟨w.heap.size + 1, 5, none⟩ = some (.slice (some ad') r'.length d5) ∧ w'.cell? (ad.add i) = some (.int .i64 v1) ∧ w'.cell? (ad'.add i) = some (.int .i64 v2)) (first | exact KS.out _ | exact LS.out _ (fun _ _ _ => rfl) | exact LS.out _ (fun k hk _ => al_keep _ (Nat.lt_of_lt_of_le hk NN.out)) | exact LS.out _ K1.out | exact LS.out _ (fun k hk hn => (set_keep _ hn).trans (K1.out k hk hn)) | go_keep) (first | (refine app1_step wr.drew _ rfl rfl (.tmp 69) (.tmp 81) rfl (.slice A5_ i c5_) (RZ.take i) v3 rfl rfl rfl M.out.drew.G (fun k hk => Nat.le_trans NN.out hk) (by have := RL.out; have := NN.out; show w.heap.size + 3 ≤ wr.heap.size; omega) (by have := TL.out; omega) ?_; intro v4 w1 ho hb hg; rw [T8.out] at ho; obtain ⟨A6_, c6_, rfl⟩ := Kd.R_slice ho; rw [TL1.out] at ho; rw [TL1.out]; have M1 := Aside0.mk (M.out.drew.grow hg hb ho); clear ho; have K1 := Aside0.mk (show ∀ k, k < n0 → k ≠ gB → w1.heap[k]? = wr.heap[k]? from M.out.drew.gkeep hg); clear hb hg; have KS := Aside0.mk (fun v : Value => LS.out (w1.setCell ⟨gB, 5, none⟩ v) (fun k hk hn => (set_keep v hn).trans (K1.out k hk hn))); obtain ⟨_, _, _, _, _, t5, _⟩ := M1.out.X.cells; have ft := M1.out.X.fz) | (go_at_call 86; (with_reducible refine (spec_l1Max.still v1 v2 v3 _ H8.out).mono ?_); rintro e wq ⟨rfl, rfl⟩))
      all_goals
       go_wp2
       go_roundg (8 - (i + 1) + 1)
       case measure => omega
       case rel => exact ⟨i + 1, A6_, c6_, by omega, by omega, by go_num, ⟨M1.out.set 5 (.slice A6_ (i + 1) c6_) rfl⟩⟩
     ·have : i = 8 := by omega
      subst this
      have hd : decide (((8 : Nat) : Int) < 8) = false := by decide
      have hR8 : RZ.take 8 = RZ := List.take_of_length_le (by rw [a8.out.1]; exact Nat.le_refl _);rw [hR8] at M;clear hR8
      have ne1 : w.heap.size + 2 ≠ gB := by have := RL.out; omega
      have ne2 : gB ≠ w.heap.size + 2 := by have := RL.out; omega
      obtain ⟨z0, z1, z2, z3, z4_, z5, z6⟩ := M.out.X.cells;obtain ⟨o0, o1, o2, o3, o4, o5, o6⟩ := M.out.F.o.cells;have fo := M.out.F.o.fz
      go_wp2
      clear z0 z1 z2 z3 z4_ z5 z6 o0 o1 o2 o3 o4 o5 o6 fo;have FB := Aside0.mk ((show Bx wr (w.heap.size + 1 + 1) 26 #[.int .i64 0, .int .i64 0, .int .i64 0, .int .i64 0, .slice none 0 0, .slice none 0 0, .slice none 0 0] from M.out.F.o).fill (.int .i64 CA) (.int .i64 CS) (.int .i64 m2) (.int .i64 HM) (.slice (some ⟨g5, 0, none⟩) HZ.length q5) (.slice A5_ 8 c5_) (.slice (some ⟨gl, 0, none⟩) 2 2));refine bodyPost_ret (results_cell_row rfl _ _ (w.heap.size + 1 + 1) 26 #[.int .i64 CA, .int .i64 CS, .int .i64 m2, .int .i64 HM, .slice (some ⟨g5, 0, none⟩) HZ.length q5, .slice A5_ 8 c5_, .slice (some ⟨gl, 0, none⟩) 2 2] (0, 0) _ rfl FB.out.1 Try.underlying26 rfl (by kernel_rfl)) rfl ?_;have N8 := M.out.n;have RR := RL.out;exact ⟨⟨some ⟨g5, 0, none⟩, HZ.length, q5⟩, ⟨A5_, 8, c5_⟩, ⟨some ⟨gl, 0, none⟩, 2, 2⟩, w.heap.size + 3, wr.heap.size, rfl, M.out.sk.kp FB.out.2 (.inl (by omega)), ⟨by omega, by omega, FB.out.2.kept.1⟩, below_kp M.out.F.l FB.out.2 (by omega) M.out.F.l.size⟩

def spec_l3Merge.G (l0_4 l0_5 : List Int) (l0_6 : List (List Int)) (l1_4 l1_5 : List Int) (l1_6 : List (List Int)) (HZ Z0 Z1 : List Int) : Prop := ((l0_4.length = 8 ∧ l0_5.length = 8 ∧ l0_6.length = 2 ∧ l1_4.length = 8 ∧ l1_5.length = 8 ∧ l1_6.length = 2) ∧ (HZ.length = 8 ∧ Z0.length = 4 ∧ Z1.length = 4) ∧ (List.zipWith hi2 l0_5 l1_5).length = 8 ∧ ∀ i, i < 8 → spec_l1Max.f (l0_5.getD i 0) (l1_5.getD i 0) = some ((List.zipWith hi2 l0_5 l1_5).getD i 0))
instance spec_l3Merge.gd (l0_4 l0_5 : List Int) (l0_6 : List (List Int)) (l1_4 l1_5 : List Int) (l1_6 : List (List Int)) (HZ Z0 Z1 : List Int) : Decidable (spec_l3Merge.G l0_4 l0_5 l0_6 l1_4 l1_5 l1_6 HZ Z0 Z1) := by unfold spec_l3Merge.G; infer_instance
def spec_l3Merge.lo (c lo c' lo' lm : Int) : Int := if c' = 0 then lo else if c = 0 then lo' else lm
def spec_l3Merge.f (k : Nat) (a0_0 : Int) (a0_1 : Int) (a0_2 : Int) (a0_3 : Int) (l0_4 : List Int) (l0_5 : List Int) (l0_6 : List (List Int)) (a1_0 : Int) (a1_1 : Int) (a1_2 : Int) (a1_3 : Int) (l1_4 : List Int) (l1_5 : List Int) (l1_6 : List (List Int)) : Option (Int × Int × Int × Int × List Int × List Int × (List (List Int))) := (spec_Add.f a0_0 a1_0).bind fun CA => (spec_Add.f a0_1 a1_1).bind fun CS => (spec_l1Min.f a0_2 a1_2).bind fun LM => (spec_l1Max.f a0_3 a1_3).bind fun HM => (spec_l3Sum.f k l0_4 l1_4).bind fun HZ => (spec_l3Sum.f k (l0_6.getD 0 []) (l1_6.getD 0 [])).bind fun Z0 => (spec_l3Sum.f k (l0_6.getD 1 []) (l1_6.getD 1 [])).bind fun Z1 => if spec_l3Merge.G l0_4 l0_5 l0_6 l1_4 l1_5 l1_6 HZ Z0 Z1 then some (CA, CS, spec_l3Merge.lo a0_0 a0_2 a1_0 a1_2 LM, HM, HZ, List.zipWith hi2 l0_5 l1_5, [Z0, Z1]) else none
theorem spec_l3Merge.mono : ∀ a0_0 a0_1 a0_2 a0_3 l0_4 l0_5 l0_6 a1_0 a1_1 a1_2 a1_3 l1_4 l1_5 l1_6 k, LeO (spec_l3Merge.f k a0_0 a0_1 a0_2 a0_3 l0_4 l0_5 l0_6 a1_0 a1_1 a1_2 a1_3 l1_4 l1_5 l1_6) (spec_l3Merge.f (k + 1) a0_0 a0_1 a0_2 a0_3 l0_4 l0_5 l0_6 a1_0 a1_1 a1_2 a1_3 l1_4 l1_5 l1_6) := by
 intro a0_0 a0_1 a0_2 a0_3 l0_4 l0_5 l0_6 a1_0 a1_1 a1_2 a1_3 l1_4 l1_5 l1_6 k
 unfold spec_l3Merge.f
 exact LeO.bind (LeO.refl _) (fun _ => LeO.bind (LeO.refl _) (fun _ => LeO.bind (LeO.refl _) (fun _ => LeO.bind (LeO.refl _) (fun _ => LeO.bind (spec_l3Sum.mono _ _ _) (fun _ => LeO.bind (spec_l3Sum.mono _ _ _) (fun _ => LeO.bind (spec_l3Sum.mono _ _ _) (fun _ => LeO.refl _)))))))
theorem spec_l3Merge.calls (k : Nat) (a0_0 : Int) (a0_1 : Int) (a0_2 : Int) (a0_3 : Int) (A0_4 : Option Addr) (c0_4 : Nat) (l0_4 : List Int) (A0_5 : Option Addr) (c0_5 : Nat) (l0_5 : List Int) (A0_6 : Option Addr) (c0_6 : Nat) (l0_6 : List (List Int)) (a1_0 : Int) (a1_1 : Int) (a1_2 : Int) (a1_3 : Int) (A1_4 : Option Addr) (c1_4 : Nat) (l1_4 : List Int) (A1_5 : Option Addr) (c1_5 : Nat) (l1_5 : List Int) (A1_6 : Option Addr) (c1_6 : Nat) (l1_6 : List (List Int)) (r1 : Int) (r2 : Int) (r3 : Int) (r4 : Int) (r5 : List Int) (r6 : List Int) (r7 : List (List Int)) (w : World) (hr0_4 : Kd.C (Kd.int .i64) w A0_4 l0_4.length l0_4) (hc0_4 : l0_4.length ≤ c0_4) (hr0_5 : Kd.C (Kd.int .i64) w A0_5 l0_5.length l0_5) (hc0_5 : l0_5.length ≤ c0_5) (hr0_6 : Kd.C (Kd.slice 3 (Kd.int .i64)) w A0_6 l0_6.length l0_6) (hc0_6 : l0_6.length ≤ c0_6) (hr1_4 : Kd.C (Kd.int .i64) w A1_4 l1_4.length l1_4) (hc1_4 : l1_4.length ≤ c1_4) (hr1_5 : Kd.C (Kd.int .i64) w A1_5 l1_5.length l1_5) (hc1_5 : l1_5.length ≤ c1_5) (hr1_6 : Kd.C (Kd.slice 3 (Kd.int .i64)) w A1_6 l1_6.length l1_6) (hc1_6 : l1_6.length ≤ c1_6) (h : spec_l3Merge.f k a0_0 a0_1 a0_2 a0_3 l0_4 l0_5 l0_6 a1_0 a1_1 a1_2 a1_3 l1_4 l1_5 l1_6 = some (r1, r2, r3, r4, r5, r6, r7)) :
  Calls Try.prog 51 #[.agg #[.int .i64 a0_0, .int .i64 a0_1, .int .i64 a0_2, .int .i64 a0_3, .slice A0_4 l0_4.length c0_4, .slice A0_5 l0_5.length c0_5, .slice A0_6 l0_6.length c0_6], .agg #[.int .i64 a1_0, .int .i64 a1_1, .int .i64 a1_2, .int .i64 a1_3, .slice A1_4 l1_4.length c1_4, .slice A1_5 l1_5.length c1_5, .slice A1_6 l1_6.length c1_6]] w fun e w' => ∃ v4_ v5_ v6_ : Value, e = .returned (.agg #[.int .i64 r1, .int .i64 r2, .int .i64 r3, .int .i64 r4, v4_, v5_, v6_]) ∧ Kd.R (Kd.int .i64) 3 w' w.heap.size (fun k_ => some k_ ≠ (v5_ : Value).ownBlock) v4_ r5 ∧ Kd.R (Kd.int .i64) 3 w' w.heap.size (fun k_ => some k_ ≠ (v4_ : Value).ownBlock) v5_ r6 ∧ Kd.S (Kd.slice 3 (Kd.int .i64)) 23 w' w.heap.size (fun k_ => some k_ ≠ (v4_ : Value).ownBlock ∧ some k_ ≠ (v5_ : Value).ownBlock) v6_ r7 ∧ Below w.heap.size w w' := by
 have u : Rd w ⟨A0_4, l0_4.length, c0_4⟩ ⟨A0_5, l0_5.length, c0_5⟩ ⟨A0_6, l0_6.length, c0_6⟩ l0_4 l0_5 l0_6 := ⟨rfl, rfl, rfl, hc0_4, hc0_5, hc0_6, hr0_4, hr0_5, hr0_6⟩
 have u' : Rd w ⟨A1_4, l1_4.length, c1_4⟩ ⟨A1_5, l1_5.length, c1_5⟩ ⟨A1_6, l1_6.length, c1_6⟩ l1_4 l1_5 l1_6 := ⟨rfl, rfl, rfl, hc1_4, hc1_5, hc1_6, hr1_4, hr1_5, hr1_6⟩
 unfold spec_l3Merge.f at h
 obtain ⟨CA, h1, h⟩ := Option.bind_eq_some_iff.mp h
 obtain ⟨CS, h2, h⟩ := Option.bind_eq_some_iff.mp h
 obtain ⟨LM, h3, h⟩ := Option.bind_eq_some_iff.mp h
 obtain ⟨HM, h4, h⟩ := Option.bind_eq_some_iff.mp h
 obtain ⟨HZ, h5, h⟩ := Option.bind_eq_some_iff.mp h
 obtain ⟨Z0, h6, h⟩ := Option.bind_eq_some_iff.mp h
 obtain ⟨Z1, h7, h⟩ := Option.bind_eq_some_iff.mp h
 by_cases g : spec_l3Merge.G l0_4 l0_5 l0_6 l1_4 l1_5 l1_6 HZ Z0 Z1
 ·rw [if_pos g] at h
  simp only [Option.some.injEq, Prod.mk.injEq] at h
  obtain ⟨rfl, rfl, rfl, rfl, rfl, rfl, rfl⟩ := h
  obtain ⟨g1, g2, g3, g4⟩ := g
  have q1 : ((a0_0 == 0) = true ∧ (if a0_0 = 0 then a1_2 else LM) = a1_2) ∨ ((a0_0 == 0) = false ∧ (if a0_0 = 0 then a1_2 else LM) = LM) := by
   by_cases e : a0_0 = 0
   ·exact .inl ⟨by simp [e], if_pos e⟩
   ·exact .inr ⟨by simp [e], if_neg e⟩
  have q2 : ((a1_0 == 0) = true ∧ spec_l3Merge.lo a0_0 a0_2 a1_0 a1_2 LM = a0_2) ∨ ((a1_0 == 0) = false ∧ spec_l3Merge.lo a0_0 a0_2 a1_0 a1_2 LM = (if a0_0 = 0 then a1_2 else LM)) := by
   unfold spec_l3Merge.lo
   by_cases e : a1_0 = 0
   ·exact .inl ⟨by simp [e], if_pos e⟩
   ·exact .inr ⟨by simp [e], if_neg e⟩
  refine (spec_l3Merge.walk k _ _ _ _ _ _ _ _ w u u' ⟨g1⟩ _ _ _ _ ⟨h1⟩ ⟨h2⟩ ⟨h3⟩ ⟨h4⟩ _ _ _ ⟨h5⟩ ⟨h6⟩ ⟨h7⟩ _ _ ⟨q1⟩ ⟨q2⟩ _ ⟨g3, g4⟩ g2).mono ?_
  rintro e w' ⟨x, y, z, a, b, rfl, hs, hm, hb⟩
  obtain ⟨k1, k2, k3⟩ := hs.kd hm.1
  refine ⟨_, _, _, rfl, k1, k2, k3, hb⟩
 ·rw [if_neg g] at h
  cases h

def spec_Merge.f (k : Nat) (a0_0 : Int) (a0_1 : Int) (a0_2 : Int) (a0_3 : Int) (l0_4 : List Int) (l0_5 : List Int) (l0_6 : List (List Int)) (a1_0 : Int) (a1_1 : Int) (a1_2 : Int) (a1_3 : Int) (l1_4 : List Int) (l1_5 : List Int) (l1_6 : List (List Int)) : Option (Int × Int × Int × Int × List Int × List Int × (List (List Int)) × Bool) := (spec_SketchOk.f k a0_0 a0_1 a0_2 a0_3 l0_4 l0_5 l0_6).bind fun t132 => (if t132 = true then ((spec_SketchOk.f k a1_0 a1_1 a1_2 a1_3 l1_4 l1_5 l1_6).bind fun t133 => (if t133 = true then ((spec_l3Merge.f k a0_0 a0_1 a0_2 a0_3 l0_4 l0_5 l0_6 a1_0 a1_1 a1_2 a1_3 l1_4 l1_5 l1_6).bind fun bt134 => (some (bt134.1, bt134.2.1, bt134.2.2.1, bt134.2.2.2.1, bt134.2.2.2.2.1, bt134.2.2.2.2.2.1, bt134.2.2.2.2.2.2, true))) else (some (0, 0, 0, 0, ([] : List Int), ([] : List Int), ([] : List (List Int)), false)))) else (some (0, 0, 0, 0, ([] : List Int), ([] : List Int), ([] : List (List Int)), false)))
theorem spec_Merge.mono : ∀ a0 a1 a2 a3 a4 a5 a6 a7 a8 a9 a10 a11 a12 a13 k, LeO (spec_Merge.f k a0 a1 a2 a3 a4 a5 a6 a7 a8 a9 a10 a11 a12 a13) (spec_Merge.f (k + 1) a0 a1 a2 a3 a4 a5 a6 a7 a8 a9 a10 a11 a12 a13) := by
 intro a0 a1 a2 a3 a4 a5 a6 a7 a8 a9 a10 a11 a12 a13 k
 unfold spec_Merge.f
 repeat' first
   | (with_reducible exact spec_SketchOk.mono _ _ _ _ _ _ _ _)
   | (with_reducible exact spec_l3Merge.mono _ _ _ _ _ _ _ _ _ _ _ _ _ _ _)
   | (with_reducible exact LeO.refl _)
   | (with_reducible exact LeO.none _)
   | (with_reducible refine LeO.ite ?_ ?_)
   | (with_reducible refine LeO.bind ?_ (fun _ => ?_))
   | exact spec_SketchOk.mono _ _ _ _ _ _ _ _
   | exact spec_l3Merge.mono _ _ _ _ _ _ _ _ _ _ _ _ _ _ _
   | exact LeO.none _
   | refine LeO.ite ?_ ?_
   | refine LeO.bind ?_ (fun _ => ?_)
set_option maxHeartbeats 8000000 in
set_option maxRecDepth 100000 in
theorem spec_Merge.calls (k : Nat) (a0_0 : Int) (a0_1 : Int) (a0_2 : Int) (a0_3 : Int) (A0_4 : Option Addr) (c0_4 : Nat) (l0_4 : List Int) (A0_5 : Option Addr) (c0_5 : Nat) (l0_5 : List Int) (A0_6 : Option Addr) (c0_6 : Nat) (l0_6 : List (List Int)) (a1_0 : Int) (a1_1 : Int) (a1_2 : Int) (a1_3 : Int) (A1_4 : Option Addr) (c1_4 : Nat) (l1_4 : List Int) (A1_5 : Option Addr) (c1_5 : Nat) (l1_5 : List Int) (A1_6 : Option Addr) (c1_6 : Nat) (l1_6 : List (List Int)) (r1 : Int) (r2 : Int) (r3 : Int) (r4 : Int) (r5 : List Int) (r6 : List Int) (r7 : List (List Int)) (r8 : Bool) (w : World) (hr0_4 : Kd.C (Kd.int .i64) w A0_4 l0_4.length l0_4) (hc0_4 : l0_4.length ≤ c0_4) (hr0_5 : Kd.C (Kd.int .i64) w A0_5 l0_5.length l0_5) (hc0_5 : l0_5.length ≤ c0_5) (hr0_6 : Kd.C (Kd.slice 3 (Kd.int .i64)) w A0_6 l0_6.length l0_6) (hc0_6 : l0_6.length ≤ c0_6) (hr1_4 : Kd.C (Kd.int .i64) w A1_4 l1_4.length l1_4) (hc1_4 : l1_4.length ≤ c1_4) (hr1_5 : Kd.C (Kd.int .i64) w A1_5 l1_5.length l1_5) (hc1_5 : l1_5.length ≤ c1_5) (hr1_6 : Kd.C (Kd.slice 3 (Kd.int .i64)) w A1_6 l1_6.length l1_6) (hc1_6 : l1_6.length ≤ c1_6) (h : spec_Merge.f k a0_0 a0_1 a0_2 a0_3 l0_4 l0_5 l0_6 a1_0 a1_1 a1_2 a1_3 l1_4 l1_5 l1_6 = some (r1, r2, r3, r4, r5, r6, r7, r8)) :
  Calls Try.prog 18 #[.agg #[.int .i64 a0_0, .int .i64 a0_1, .int .i64 a0_2, .int .i64 a0_3, .slice A0_4 l0_4.length c0_4, .slice A0_5 l0_5.length c0_5, .slice A0_6 l0_6.length c0_6], .agg #[.int .i64 a1_0, .int .i64 a1_1, .int .i64 a1_2, .int .i64 a1_3, .slice A1_4 l1_4.length c1_4, .slice A1_5 l1_5.length c1_5, .slice A1_6 l1_6.length c1_6]] w fun e w' => ∃ v4_ v5_ v6_ : Value, e = .returned (.tuple #[.agg #[.int .i64 r1, .int .i64 r2, .int .i64 r3, .int .i64 r4, v4_, v5_, v6_], .bool r8]) ∧ Kd.R (Kd.int .i64) 3 w' w.heap.size (fun k_ => some k_ ≠ (v5_ : Value).ownBlock) v4_ r5 ∧ Kd.R (Kd.int .i64) 3 w' w.heap.size (fun k_ => some k_ ≠ (v4_ : Value).ownBlock) v5_ r6 ∧ Kd.S (Kd.slice 3 (Kd.int .i64)) 23 w' w.heap.size (fun k_ => some k_ ≠ (v4_ : Value).ownBlock ∧ some k_ ≠ (v5_ : Value).ownBlock) v6_ r7 ∧ Below w.heap.size w w' := by
 have hu26 := Try.underlying26
 have HR0_4 := Aside0.mk hr0_4
 have HC0_4 := Aside0.mk hc0_4
 clear hr0_4 hc0_4
 have HR0_5 := Aside0.mk hr0_5
 have HC0_5 := Aside0.mk hc0_5
 clear hr0_5 hc0_5
 have HR0_6 := Aside0.mk hr0_6
 have HC0_6 := Aside0.mk hc0_6
 clear hr0_6 hc0_6
 have HR1_4 := Aside0.mk hr1_4
 have HC1_4 := Aside0.mk hc1_4
 clear hr1_4 hc1_4
 have HR1_5 := Aside0.mk hr1_5
 have HC1_5 := Aside0.mk hc1_5
 clear hr1_5 hc1_5
 have HR1_6 := Aside0.mk hr1_6
 have HC1_6 := Aside0.mk hc1_6
 clear hr1_6 hc1_6
 have HB := Aside0.mk (Below.refl w.heap.size w)
 have H : ((spec_SketchOk.f k a0_0 a0_1 a0_2 a0_3 l0_4 l0_5 l0_6).bind fun t132 => (if t132 = true then ((spec_SketchOk.f k a1_0 a1_1 a1_2 a1_3 l1_4 l1_5 l1_6).bind fun t133 => (if t133 = true then ((spec_l3Merge.f k a0_0 a0_1 a0_2 a0_3 l0_4 l0_5 l0_6 a1_0 a1_1 a1_2 a1_3 l1_4 l1_5 l1_6).bind fun bt134 => (some (bt134.1, bt134.2.1, bt134.2.2.1, bt134.2.2.2.1, bt134.2.2.2.2.1, bt134.2.2.2.2.2.1, bt134.2.2.2.2.2.2, true))) else (some (0, 0, 0, 0, ([] : List Int), ([] : List Int), ([] : List (List Int)), false)))) else (some (0, 0, 0, 0, ([] : List Int), ([] : List Int), ([] : List (List Int)), false)))) = some (r1, r2, r3, r4, r5, r6, r7, r8) := h
 clear h
 replace H := Option.bind_eq_some_iff.mp H
 obtain ⟨t132, A30, H⟩ := H
 replace H : (if t132 = true then ((spec_SketchOk.f k a1_0 a1_1 a1_2 a1_3 l1_4 l1_5 l1_6).bind fun t133 => (if t133 = true then ((spec_l3Merge.f k a0_0 a0_1 a0_2 a0_3 l0_4 l0_5 l0_6 a1_0 a1_1 a1_2 a1_3 l1_4 l1_5 l1_6).bind fun bt134 => (some (bt134.1, bt134.2.1, bt134.2.2.1, bt134.2.2.2.1, bt134.2.2.2.2.1, bt134.2.2.2.2.2.1, bt134.2.2.2.2.2.2, true))) else (some (0, 0, 0, 0, ([] : List Int), ([] : List Int), ([] : List (List Int)), false)))) else (some (0, 0, 0, 0, ([] : List Int), ([] : List Int), ([] : List (List Int)), false))) = some (r1, r2, r3, r4, r5, r6, r7, r8) := H
 have A3 := Aside0.mk A30
 clear A30
 by_cases c4 : t132 = true
 ·subst c4
  have H1 : ((spec_SketchOk.f k a1_0 a1_1 a1_2 a1_3 l1_4 l1_5 l1_6).bind fun t133 => (if t133 = true then ((spec_l3Merge.f k a0_0 a0_1 a0_2 a0_3 l0_4 l0_5 l0_6 a1_0 a1_1 a1_2 a1_3 l1_4 l1_5 l1_6).bind fun bt134 => (some (bt134.1, bt134.2.1, bt134.2.2.1, bt134.2.2.2.1, bt134.2.2.2.2.1, bt134.2.2.2.2.2.1, bt134.2.2.2.2.2.2, true))) else (some (0, 0, 0, 0, ([] : List Int), ([] : List Int), ([] : List (List Int)), false)))) = some (r1, r2, r3, r4, r5, r6, r7, r8) := by rw [if_pos rfl] at H; exact H
  clear H
  have H := H1
  clear H1
  replace H := Option.bind_eq_some_iff.mp H
  obtain ⟨t133, A50, H⟩ := H
  replace H : (if t133 = true then ((spec_l3Merge.f k a0_0 a0_1 a0_2 a0_3 l0_4 l0_5 l0_6 a1_0 a1_1 a1_2 a1_3 l1_4 l1_5 l1_6).bind fun bt134 => (some (bt134.1, bt134.2.1, bt134.2.2.1, bt134.2.2.2.1, bt134.2.2.2.2.1, bt134.2.2.2.2.2.1, bt134.2.2.2.2.2.2, true))) else (some (0, 0, 0, 0, ([] : List Int), ([] : List Int), ([] : List (List Int)), false))) = some (r1, r2, r3, r4, r5, r6, r7, r8) := H
  have A5 := Aside0.mk A50
  clear A50
  by_cases c6 : t133 = true
  ·subst c6
   have H1 : ((spec_l3Merge.f k a0_0 a0_1 a0_2 a0_3 l0_4 l0_5 l0_6 a1_0 a1_1 a1_2 a1_3 l1_4 l1_5 l1_6).bind fun bt134 => (some (bt134.1, bt134.2.1, bt134.2.2.1, bt134.2.2.2.1, bt134.2.2.2.2.1, bt134.2.2.2.2.2.1, bt134.2.2.2.2.2.2, true))) = some (r1, r2, r3, r4, r5, r6, r7, r8) := by rw [if_pos rfl] at H; exact H
   clear H
   have H := H1
   clear H1
   replace H := Option.bind_eq_some_iff.mp H
   obtain ⟨⟨t134, t135, t136, t137, t138, t141, t144⟩, A70, H⟩ := H
   replace H : (some (t134, t135, t136, t137, t138, t141, t144, true)) = some (r1, r2, r3, r4, r5, r6, r7, r8) := H
   have A7 := Aside0.mk A70
   clear A70
   simp only [Option.some.injEq, Prod.mk.injEq] at H
   obtain ⟨rfl, rfl, rfl, rfl, rfl, rfl, rfl, rfl⟩ := H
   go_enter Try.func18, Try.ntmps18
   go_wp2_with (first | ((with_reducible refine gate_dst (N := 2) rfl ?_); refine box_event ?hg (N := 2) ?hd (cs := #[.int .i64 a0_0, .int .i64 a0_1, .int .i64 a0_2, .int .i64 a0_3, .slice A0_4 l0_4.length c0_4, .slice A0_5 l0_5.length c0_5, .slice A0_6 l0_6.length c0_6]) (t := 26) ?hr ?_; (case hd => rfl); (case hg => rfl); (case hr => first | (go_simp; done) | (go_simp; rfl)); intro gb129 hg w8 hbox hb; have n0_ := Aside0.mk (below_step Z3x2 hb); have n1_ := Aside0.mk (hbox); have n2_ := Aside0.mk ((by rw [hg]; exact (below_size Z3x2) : w.heap.size ≤ gb129)); have n3_ := Aside0.mk ((by rw [hg]; exact (below_size Z3x2) : w.heap.size ≤ gb129)); clear HB; have HB := n0_; have BK129 := n1_; have GW129 := n2_; have GE129 := n3_; clear n0_ n1_ n2_ n3_; clear hb hbox hg) | ((with_reducible refine gate_dst (N := 3) rfl ?_); refine box_event ?hg (N := 3) ?hd (cs := #[.int .i64 a1_0, .int .i64 a1_1, .int .i64 a1_2, .int .i64 a1_3, .slice A1_4 l1_4.length c1_4, .slice A1_5 l1_5.length c1_5, .slice A1_6 l1_6.length c1_6]) (t := 26) ?hr ?_; (case hd => rfl); (case hg => rfl); (case hr => first | (go_simp; done) | (go_simp; rfl)); intro gb130 hg w9 hbox hb; have n0_ := Aside0.mk (blk_below (g := gb129) (o := .cells #[.int .i64 a0_0, .int .i64 a0_1, .int .i64 a0_2, .int .i64 a0_3, .slice A0_4 l0_4.length c0_4, .slice A0_5 l0_5.length c0_5, .slice A0_6 l0_6.length c0_6] 26 (0, 0)) Z3x0 hb); have n1_ := Aside0.mk (below_step Z3x6 hb); have n2_ := Aside0.mk (hbox); have n3_ := Aside0.mk ((by rw [hg]; exact (below_size Z3x6) : w.heap.size ≤ gb130)); have n4_ := Aside0.mk ((by rw [hg]; exact (below_size Z3x6) : w.heap.size ≤ gb130)); have n5_ := Aside0.mk ((Z3x7 : gb129 ≠ gb130)); have n6_ := Aside0.mk ((Z3x8 : gb130 ≠ gb129)); clear BK129; clear HB; have BK129 := n0_; have HB := n1_; have BK130 := n2_; have GW130 := n3_; have GE130 := n4_; have NB129_130 := n5_; have NB130_129 := n6_; clear n0_ n1_ n2_ n3_ n4_ n5_ n6_; clear hb hbox hg) | ((with_reducible refine gate_dst (N := 4) rfl ?_); refine box_event ?hg (N := 4) ?hd (cs := #[.int .i64 0, .int .i64 0, .int .i64 0, .int .i64 0, .slice none 0 0, .slice none 0 0, .slice none 0 0]) (t := 26) ?hr ?_; (case hd => rfl); (case hg => rfl); (case hr => first | (go_simp; done) | (go_simp; rfl)); intro gb131 hg w10 hbox hb; have n0_ := Aside0.mk (blk_below (g := gb129) (o := .cells #[.int .i64 a0_0, .int .i64 a0_1, .int .i64 a0_2, .int .i64 a0_3, .slice A0_4 l0_4.length c0_4, .slice A0_5 l0_5.length c0_5, .slice A0_6 l0_6.length c0_6] 26 (0, 0)) Z3x0 hb); have n1_ := Aside0.mk (blk_below (g := gb130) (o := .cells #[.int .i64 a1_0, .int .i64 a1_1, .int .i64 a1_2, .int .i64 a1_3, .slice A1_4 l1_4.length c1_4, .slice A1_5 l1_5.length c1_5, .slice A1_6 l1_6.length c1_6] 26 (0, 0)) Z3x4 hb); have n2_ := Aside0.mk (below_step Z3x5 hb); have n3_ := Aside0.mk (hbox); have n4_ := Aside0.mk ((by rw [hg]; exact (below_size Z3x5) : w.heap.size ≤ gb131)); have n5_ := Aside0.mk ((by rw [hg]; exact (below_size Z3x5) : w.heap.size ≤ gb131)); have n6_ := Aside0.mk ((Z3x7 : gb129 ≠ gb131)); have n7_ := Aside0.mk ((Z3x8 : gb131 ≠ gb129)); have n8_ := Aside0.mk ((Z3x14 : gb130 ≠ gb131)); have n9_ := Aside0.mk ((Z3x15 : gb131 ≠ gb130)); clear BK129; clear BK130; clear HB; have BK129 := n0_; have BK130 := n1_; have HB := n2_; have BK131 := n3_; have GW131 := n4_; have GE131 := n5_; have NB129_131 := n6_; have NB131_129 := n7_; have NB130_131 := n8_; have NB131_130 := n9_; clear n0_ n1_ n2_ n3_ n4_ n5_ n6_ n7_ n8_ n9_; clear hb hbox hg; have hnb11 := NB129_130.out; have hnc11 := NB130_129.out; have hnb12 := NB129_131.out; have hnc12 := NB131_129.out; obtain ⟨hcz13_0, hcz13_1, hcz13_2, hcz13_3, hcz13_4, hcz13_5, hcz13_6⟩ := cz7 BK129.out; obtain ⟨hfz13_0, hfz13_1, hfz13_2, hfz13_3, hfz13_4, hfz13_5, hfz13_6⟩ := fz7 BK129.out) | ((with_reducible refine gate_callee (f := 39) rfl ?_); refine goesL_ (some 7) rfl rfl Try.func39 (by kernel_rfl) rfl #[.agg #[.int .i64 a0_0, .int .i64 a0_1, .int .i64 a0_2, .int .i64 a0_3, .slice A0_4 l0_4.length c0_4, .slice A0_5 l0_5.length c0_5, .slice A0_6 l0_6.length c0_6]] rfl Z3x9 ?_; (with_reducible refine (spec_SketchOk.calls k a0_0 a0_1 a0_2 a0_3 _ _ l0_4 _ _ l0_5 _ _ l0_6 true _ ?side1 ?side2 ?side3 ?side4 ?side5 ?side6 A3.out).mono ?_); (case side1 => exact Z3x11); (case side2 => exact HC0_4.out); (case side3 => exact Z3x12); (case side4 => exact HC0_5.out); (case side5 => exact Z3x13); (case side6 => exact HC0_6.out); rintro e w14 ⟨rfl, hb⟩; refine ⟨_, rfl, ?_⟩; have n0_ := Aside0.mk (blk_below (g := gb129) (o := .cells #[.int .i64 a0_0, .int .i64 a0_1, .int .i64 a0_2, .int .i64 a0_3, .slice A0_4 l0_4.length c0_4, .slice A0_5 l0_5.length c0_5, .slice A0_6 l0_6.length c0_6] 26 (0, 0)) Z3x0 hb); have n1_ := Aside0.mk (blk_below (g := gb130) (o := .cells #[.int .i64 a1_0, .int .i64 a1_1, .int .i64 a1_2, .int .i64 a1_3, .slice A1_4 l1_4.length c1_4, .slice A1_5 l1_5.length c1_5, .slice A1_6 l1_6.length c1_6] 26 (0, 0)) Z3x4 hb); have n2_ := Aside0.mk (blk_below (g := gb131) (o := .cells #[.int .i64 0, .int .i64 0, .int .i64 0, .int .i64 0, .slice none 0 0, .slice none 0 0, .slice none 0 0] 26 (0, 0)) Z3x10 hb); have n3_ := Aside0.mk (below_step Z3x1 hb); clear BK129; clear BK130; clear BK131; clear HB; have BK129 := n0_; have BK130 := n1_; have BK131 := n2_; have HB := n3_; clear n0_ n1_ n2_ n3_; (try clear hb); (try clear hb2); (try clear hk); (try clear hi); have hnb15 := NB130_131.out; have hnc15 := NB131_130.out; obtain ⟨hcz16_0, hcz16_1, hcz16_2, hcz16_3, hcz16_4, hcz16_5, hcz16_6⟩ := cz7 BK130.out; obtain ⟨hfz16_0, hfz16_1, hfz16_2, hfz16_3, hfz16_4, hfz16_5, hfz16_6⟩ := fz7 BK130.out) | (go_at_call 39; (with_reducible refine (spec_SketchOk.calls k a1_0 a1_1 a1_2 a1_3 _ _ l1_4 _ _ l1_5 _ _ l1_6 true _ ?side1 ?side2 ?side3 ?side4 ?side5 ?side6 A5.out).mono ?_); (case side1 => exact Z3x17); (case side2 => exact HC1_4.out); (case side3 => exact Z3x18); (case side4 => exact HC1_5.out); (case side5 => exact Z3x19); (case side6 => exact HC1_6.out); rintro e w17 ⟨rfl, hb⟩; have n0_ := Aside0.mk (blk_below (g := gb129) (o := .cells #[.int .i64 a0_0, .int .i64 a0_1, .int .i64 a0_2, .int .i64 a0_3, .slice A0_4 l0_4.length c0_4, .slice A0_5 l0_5.length c0_5, .slice A0_6 l0_6.length c0_6] 26 (0, 0)) Z3x0 hb); have n1_ := Aside0.mk (blk_below (g := gb130) (o := .cells #[.int .i64 a1_0, .int .i64 a1_1, .int .i64 a1_2, .int .i64 a1_3, .slice A1_4 l1_4.length c1_4, .slice A1_5 l1_5.length c1_5, .slice A1_6 l1_6.length c1_6] 26 (0, 0)) Z3x4 hb); have n2_ := Aside0.mk (blk_below (g := gb131) (o := .cells #[.int .i64 0, .int .i64 0, .int .i64 0, .int .i64 0, .slice none 0 0, .slice none 0 0, .slice none 0 0] 26 (0, 0)) Z3x10 hb); have n3_ := Aside0.mk (below_step Z3x1 hb); clear BK129; clear BK130; clear BK131; clear HB; have BK129 := n0_; have BK130 := n1_; have BK131 := n2_; have HB := n3_; clear n0_ n1_ n2_ n3_; (try clear hb); (try clear hb2); (try clear hk); (try clear hi); obtain ⟨hcz18_0, hcz18_1, hcz18_2, hcz18_3, hcz18_4, hcz18_5, hcz18_6⟩ := cz7 BK129.out; obtain ⟨hfz18_0, hfz18_1, hfz18_2, hfz18_3, hfz18_4, hfz18_5, hfz18_6⟩ := fz7 BK129.out; obtain ⟨hcz19_0, hcz19_1, hcz19_2, hcz19_3, hcz19_4, hcz19_5, hcz19_6⟩ := cz7 BK130.out; obtain ⟨hfz19_0, hfz19_1, hfz19_2, hfz19_3, hfz19_4, hfz19_5, hfz19_6⟩ := fz7 BK130.out) | ((with_reducible refine gate_callee (f := 51) rfl ?_); refine goesL_ (some 17) rfl rfl Try.func51 (by kernel_rfl) rfl #[.agg #[.int .i64 a0_0, .int .i64 a0_1, .int .i64 a0_2, .int .i64 a0_3, .slice A0_4 l0_4.length c0_4, .slice A0_5 l0_5.length c0_5, .slice A0_6 l0_6.length c0_6], .agg #[.int .i64 a1_0, .int .i64 a1_1, .int .i64 a1_2, .int .i64 a1_3, .slice A1_4 l1_4.length c1_4, .slice A1_5 l1_5.length c1_5, .slice A1_6 l1_6.length c1_6]] rfl Z3x9 ?_; (with_reducible refine (spec_l3Merge.calls k a0_0 a0_1 a0_2 a0_3 _ _ l0_4 _ _ l0_5 _ _ l0_6 a1_0 a1_1 a1_2 a1_3 _ _ l1_4 _ _ l1_5 _ _ l1_6 t134 t135 t136 t137 t138 t141 t144 _ ?side1 ?side2 ?side3 ?side4 ?side5 ?side6 ?side7 ?side8 ?side9 ?side10 ?side11 ?side12 A7.out).mono ?_); (case side1 => exact Z3x11); (case side2 => exact HC0_4.out); (case side3 => exact Z3x12); (case side4 => exact HC0_5.out); (case side5 => exact Z3x13); (case side6 => exact HC0_6.out); (case side7 => exact Z3x17); (case side8 => exact HC1_4.out); (case side9 => exact Z3x18); (case side10 => exact HC1_5.out); (case side11 => exact Z3x19); (case side12 => exact HC1_6.out); rintro e w20 ⟨v139, v142, v145, rfl, ho0, ho1, ho2, hb⟩; refine ⟨_, rfl, ?_⟩; have n0_ := Aside0.mk (Kd.R_lower ho0 (below_size Z3x1)); have n1_ := Aside0.mk (Kd.R_lower ho1 (below_size Z3x1)); have n2_ := Aside0.mk (Kd.S_lower ho2 (below_size Z3x1)); have n3_ := Aside0.mk (blk_below (g := gb129) (o := .cells #[.int .i64 a0_0, .int .i64 a0_1, .int .i64 a0_2, .int .i64 a0_3, .slice A0_4 l0_4.length c0_4, .slice A0_5 l0_5.length c0_5, .slice A0_6 l0_6.length c0_6] 26 (0, 0)) Z3x0 hb); have n4_ := Aside0.mk (blk_below (g := gb130) (o := .cells #[.int .i64 a1_0, .int .i64 a1_1, .int .i64 a1_2, .int .i64 a1_3, .slice A1_4 l1_4.length c1_4, .slice A1_5 l1_5.length c1_5, .slice A1_6 l1_6.length c1_6] 26 (0, 0)) Z3x4 hb); have n5_ := Aside0.mk (blk_below (g := gb131) (o := .cells #[.int .i64 0, .int .i64 0, .int .i64 0, .int .i64 0, .slice none 0 0, .slice none 0 0, .slice none 0 0] 26 (0, 0)) Z3x10 hb); have n6_ := Aside0.mk (below_step Z3x1 hb); clear BK129; clear BK130; clear BK131; clear HB; have HO140 := n0_; have HO143 := n1_; have HO146 := n2_; have BK129 := n3_; have BK130 := n4_; have BK131 := n5_; have HB := n6_; clear n0_ n1_ n2_ n3_ n4_ n5_ n6_; (try clear hb); (try clear hb2); (try clear hk); (try clear hi); (try clear ho0); (try clear ho1); (try clear ho2); obtain ⟨hcz21_0, hcz21_1, hcz21_2, hcz21_3, hcz21_4, hcz21_5, hcz21_6⟩ := cz7 BK131.out; obtain ⟨hfz21_0, hfz21_1, hfz21_2, hfz21_3, hfz21_4, hfz21_5, hfz21_6⟩ := fz7 BK131.out; obtain ⟨Ao22, co22, eo22⟩ := Kd.R_slice HO140.out; subst eo22; obtain ⟨Ao23, co23, eo23⟩ := Kd.R_slice HO143.out; subst eo23; obtain ⟨Ao24, co24, eo24⟩ := Kd.S_slice HO146.out; subst eo24))
   refine bodyPost_ret (results_ct rfl _ _ gb131 26 #[.int .i64 t134, .int .i64 t135, .int .i64 t136, .int .i64 t137, .slice Ao22 t138.length co22, .slice Ao23 t141.length co23, .slice Ao24 t144.length co24] (0, 0) _ rfl (by (with_reducible repeat (first | refine blk_drewN ?_ _ | refine blk_drew ?_ | refine blk_alloc ?_ _)); refine blk_put (cs := #[.int .i64 t134, .int .i64 t135, .int .i64 t136, .int .i64 t137, .slice Ao22 t138.length co22, .slice Ao23 t141.length co23, .slice none 0 0]) ?_ 6 _ rfl; (with_reducible repeat (first | refine blk_drewN ?_ _ | refine blk_drew ?_ | refine blk_alloc ?_ _)); refine blk_put (cs := #[.int .i64 t134, .int .i64 t135, .int .i64 t136, .int .i64 t137, .slice Ao22 t138.length co22, .slice none 0 0, .slice none 0 0]) ?_ 5 _ rfl; (with_reducible repeat (first | refine blk_drewN ?_ _ | refine blk_drew ?_ | refine blk_alloc ?_ _)); refine blk_put (cs := #[.int .i64 t134, .int .i64 t135, .int .i64 t136, .int .i64 t137, .slice none 0 0, .slice none 0 0, .slice none 0 0]) ?_ 4 _ rfl; (with_reducible repeat (first | refine blk_drewN ?_ _ | refine blk_drew ?_ | refine blk_alloc ?_ _)); refine blk_put (cs := #[.int .i64 t134, .int .i64 t135, .int .i64 t136, .int .i64 0, .slice none 0 0, .slice none 0 0, .slice none 0 0]) ?_ 3 _ rfl; (with_reducible repeat (first | refine blk_drewN ?_ _ | refine blk_drew ?_ | refine blk_alloc ?_ _)); refine blk_put (cs := #[.int .i64 t134, .int .i64 t135, .int .i64 0, .int .i64 0, .slice none 0 0, .slice none 0 0, .slice none 0 0]) ?_ 2 _ rfl; (with_reducible repeat (first | refine blk_drewN ?_ _ | refine blk_drew ?_ | refine blk_alloc ?_ _)); refine blk_put (cs := #[.int .i64 t134, .int .i64 0, .int .i64 0, .int .i64 0, .slice none 0 0, .slice none 0 0, .slice none 0 0]) ?_ 1 _ rfl; (with_reducible repeat (first | refine blk_drewN ?_ _ | refine blk_drew ?_ | refine blk_alloc ?_ _)); refine blk_put (cs := #[.int .i64 0, .int .i64 0, .int .i64 0, .int .i64 0, .slice none 0 0, .slice none 0 0, .slice none 0 0]) ?_ 0 _ rfl; (with_reducible repeat (first | refine blk_drewN ?_ _ | refine blk_drew ?_ | refine blk_alloc ?_ _)); exact BK131.out) Try.underlying26 rfl (by kernel_rfl)) rfl ?_
   exact ⟨_, _, _, Z3x20, by (with_reducible repeat (first | apply Kd.R_alloc | apply Kd.R_drewN | apply Kd.R_drew)); exact Kd.R_mono (Kd.R_far (p := ⟨gb131, 6, none⟩) (Kd.R_far (p := ⟨gb131, 5, none⟩) (Kd.R_far (p := ⟨gb131, 4, none⟩) (Kd.R_far (p := ⟨gb131, 3, none⟩) (Kd.R_far (p := ⟨gb131, 2, none⟩) (Kd.R_far (p := ⟨gb131, 1, none⟩) (Kd.R_far (p := ⟨gb131, 0, none⟩) (Kd.R_types HO140.out BK131.out (by decide)) (fun _ hk => hk.2) (.int .i64 t134)) (fun _ hk => hk.2) (.int .i64 t135)) (fun _ hk => hk.2) (.int .i64 t136)) (fun _ hk => hk.2) (.int .i64 t137)) (fun _ hk => hk.2) (.slice Ao22 t138.length co22)) (fun _ hk => hk.2) (.slice Ao23 t141.length co23)) (fun _ hk => hk.2) (.slice Ao24 t144.length co24)) (fun _ hk => hk.1), by (with_reducible repeat (first | apply Kd.R_alloc | apply Kd.R_drewN | apply Kd.R_drew)); exact Kd.R_mono (Kd.R_far (p := ⟨gb131, 6, none⟩) (Kd.R_far (p := ⟨gb131, 5, none⟩) (Kd.R_far (p := ⟨gb131, 4, none⟩) (Kd.R_far (p := ⟨gb131, 3, none⟩) (Kd.R_far (p := ⟨gb131, 2, none⟩) (Kd.R_far (p := ⟨gb131, 1, none⟩) (Kd.R_far (p := ⟨gb131, 0, none⟩) (Kd.R_types HO143.out BK131.out (by decide)) (fun _ hk => hk.2) (.int .i64 t134)) (fun _ hk => hk.2) (.int .i64 t135)) (fun _ hk => hk.2) (.int .i64 t136)) (fun _ hk => hk.2) (.int .i64 t137)) (fun _ hk => hk.2) (.slice Ao22 t138.length co22)) (fun _ hk => hk.2) (.slice Ao23 t141.length co23)) (fun _ hk => hk.2) (.slice Ao24 t144.length co24)) (fun _ hk => hk.1), by (with_reducible repeat (first | apply Kd.S_alloc | apply Kd.S_drewN | apply Kd.S_drew)); exact Kd.S_mono (Kd.S_far (p := ⟨gb131, 6, none⟩) (Kd.S_far (p := ⟨gb131, 5, none⟩) (Kd.S_far (p := ⟨gb131, 4, none⟩) (Kd.S_far (p := ⟨gb131, 3, none⟩) (Kd.S_far (p := ⟨gb131, 2, none⟩) (Kd.S_far (p := ⟨gb131, 1, none⟩) (Kd.S_far (p := ⟨gb131, 0, none⟩) (Kd.S_types HO146.out BK131.out (by decide)) (fun _ hk => hk.2) (.int .i64 t134)) (fun _ hk => hk.2) (.int .i64 t135)) (fun _ hk => hk.2) (.int .i64 t136)) (fun _ hk => hk.2) (.int .i64 t137)) (fun _ hk => hk.2) (.slice Ao22 t138.length co22)) (fun _ hk => hk.2) (.slice Ao23 t141.length co23)) (fun _ hk => hk.2) (.slice Ao24 t144.length co24)) (fun _ hk => ⟨hk.1.1, hk.1.2⟩), Z3x1⟩
  ·replace c6 := Bool.eq_false_iff.mpr c6
   subst c6
   have H1 : (some (0, 0, 0, 0, ([] : List Int), ([] : List Int), ([] : List (List Int)), false)) = some (r1, r2, r3, r4, r5, r6, r7, r8) := by rw [if_neg (show ¬ (false = true) by decide)] at H; exact H
   clear H
   have H := H1
   clear H1
   simp only [Option.some.injEq, Prod.mk.injEq] at H
   obtain ⟨rfl, rfl, rfl, rfl, rfl, rfl, rfl, rfl⟩ := H
   go_enter Try.func18, Try.ntmps18
   go_wp2_with (first | ((with_reducible refine gate_dst (N := 2) rfl ?_); refine box_event ?hg (N := 2) ?hd (cs := #[.int .i64 a0_0, .int .i64 a0_1, .int .i64 a0_2, .int .i64 a0_3, .slice A0_4 l0_4.length c0_4, .slice A0_5 l0_5.length c0_5, .slice A0_6 l0_6.length c0_6]) (t := 26) ?hr ?_; (case hd => rfl); (case hg => rfl); (case hr => first | (go_simp; done) | (go_simp; rfl)); intro gb129 hg w25 hbox hb; have n0_ := Aside0.mk (below_step Z3x2 hb); have n1_ := Aside0.mk (hbox); have n2_ := Aside0.mk ((by rw [hg]; exact (below_size Z3x2) : w.heap.size ≤ gb129)); have n3_ := Aside0.mk ((by rw [hg]; exact (below_size Z3x2) : w.heap.size ≤ gb129)); clear HB; have HB := n0_; have BK129 := n1_; have GW129 := n2_; have GE129 := n3_; clear n0_ n1_ n2_ n3_; clear hb hbox hg) | ((with_reducible refine gate_dst (N := 3) rfl ?_); refine box_event ?hg (N := 3) ?hd (cs := #[.int .i64 a1_0, .int .i64 a1_1, .int .i64 a1_2, .int .i64 a1_3, .slice A1_4 l1_4.length c1_4, .slice A1_5 l1_5.length c1_5, .slice A1_6 l1_6.length c1_6]) (t := 26) ?hr ?_; (case hd => rfl); (case hg => rfl); (case hr => first | (go_simp; done) | (go_simp; rfl)); intro gb130 hg w26 hbox hb; have n0_ := Aside0.mk (blk_below (g := gb129) (o := .cells #[.int .i64 a0_0, .int .i64 a0_1, .int .i64 a0_2, .int .i64 a0_3, .slice A0_4 l0_4.length c0_4, .slice A0_5 l0_5.length c0_5, .slice A0_6 l0_6.length c0_6] 26 (0, 0)) Z3x0 hb); have n1_ := Aside0.mk (below_step Z3x6 hb); have n2_ := Aside0.mk (hbox); have n3_ := Aside0.mk ((by rw [hg]; exact (below_size Z3x6) : w.heap.size ≤ gb130)); have n4_ := Aside0.mk ((by rw [hg]; exact (below_size Z3x6) : w.heap.size ≤ gb130)); have n5_ := Aside0.mk ((Z3x7 : gb129 ≠ gb130)); have n6_ := Aside0.mk ((Z3x8 : gb130 ≠ gb129)); clear BK129; clear HB; have BK129 := n0_; have HB := n1_; have BK130 := n2_; have GW130 := n3_; have GE130 := n4_; have NB129_130 := n5_; have NB130_129 := n6_; clear n0_ n1_ n2_ n3_ n4_ n5_ n6_; clear hb hbox hg) | ((with_reducible refine gate_dst (N := 4) rfl ?_); refine box_event ?hg (N := 4) ?hd (cs := #[.int .i64 0, .int .i64 0, .int .i64 0, .int .i64 0, .slice none 0 0, .slice none 0 0, .slice none 0 0]) (t := 26) ?hr ?_; (case hd => rfl); (case hg => rfl); (case hr => first | (go_simp; done) | (go_simp; rfl)); intro gb131 hg w27 hbox hb; have n0_ := Aside0.mk (blk_below (g := gb129) (o := .cells #[.int .i64 a0_0, .int .i64 a0_1, .int .i64 a0_2, .int .i64 a0_3, .slice A0_4 l0_4.length c0_4, .slice A0_5 l0_5.length c0_5, .slice A0_6 l0_6.length c0_6] 26 (0, 0)) Z3x0 hb); have n1_ := Aside0.mk (blk_below (g := gb130) (o := .cells #[.int .i64 a1_0, .int .i64 a1_1, .int .i64 a1_2, .int .i64 a1_3, .slice A1_4 l1_4.length c1_4, .slice A1_5 l1_5.length c1_5, .slice A1_6 l1_6.length c1_6] 26 (0, 0)) Z3x4 hb); have n2_ := Aside0.mk (below_step Z3x5 hb); have n3_ := Aside0.mk (hbox); have n4_ := Aside0.mk ((by rw [hg]; exact (below_size Z3x5) : w.heap.size ≤ gb131)); have n5_ := Aside0.mk ((by rw [hg]; exact (below_size Z3x5) : w.heap.size ≤ gb131)); have n6_ := Aside0.mk ((Z3x7 : gb129 ≠ gb131)); have n7_ := Aside0.mk ((Z3x8 : gb131 ≠ gb129)); have n8_ := Aside0.mk ((Z3x14 : gb130 ≠ gb131)); have n9_ := Aside0.mk ((Z3x15 : gb131 ≠ gb130)); clear BK129; clear BK130; clear HB; have BK129 := n0_; have BK130 := n1_; have HB := n2_; have BK131 := n3_; have GW131 := n4_; have GE131 := n5_; have NB129_131 := n6_; have NB131_129 := n7_; have NB130_131 := n8_; have NB131_130 := n9_; clear n0_ n1_ n2_ n3_ n4_ n5_ n6_ n7_ n8_ n9_; clear hb hbox hg; have hnb28 := NB129_130.out; have hnc28 := NB130_129.out; have hnb29 := NB129_131.out; have hnc29 := NB131_129.out; obtain ⟨hcz30_0, hcz30_1, hcz30_2, hcz30_3, hcz30_4, hcz30_5, hcz30_6⟩ := cz7 BK129.out; obtain ⟨hfz30_0, hfz30_1, hfz30_2, hfz30_3, hfz30_4, hfz30_5, hfz30_6⟩ := fz7 BK129.out) | ((with_reducible refine gate_callee (f := 39) rfl ?_); refine goesL_ (some 7) rfl rfl Try.func39 (by kernel_rfl) rfl #[.agg #[.int .i64 a0_0, .int .i64 a0_1, .int .i64 a0_2, .int .i64 a0_3, .slice A0_4 l0_4.length c0_4, .slice A0_5 l0_5.length c0_5, .slice A0_6 l0_6.length c0_6]] rfl Z3x9 ?_; (with_reducible refine (spec_SketchOk.calls k a0_0 a0_1 a0_2 a0_3 _ _ l0_4 _ _ l0_5 _ _ l0_6 true _ ?side1 ?side2 ?side3 ?side4 ?side5 ?side6 A3.out).mono ?_); (case side1 => exact Z3x11); (case side2 => exact HC0_4.out); (case side3 => exact Z3x12); (case side4 => exact HC0_5.out); (case side5 => exact Z3x13); (case side6 => exact HC0_6.out); rintro e w31 ⟨rfl, hb⟩; refine ⟨_, rfl, ?_⟩; have n0_ := Aside0.mk (blk_below (g := gb129) (o := .cells #[.int .i64 a0_0, .int .i64 a0_1, .int .i64 a0_2, .int .i64 a0_3, .slice A0_4 l0_4.length c0_4, .slice A0_5 l0_5.length c0_5, .slice A0_6 l0_6.length c0_6] 26 (0, 0)) Z3x0 hb); have n1_ := Aside0.mk (blk_below (g := gb130) (o := .cells #[.int .i64 a1_0, .int .i64 a1_1, .int .i64 a1_2, .int .i64 a1_3, .slice A1_4 l1_4.length c1_4, .slice A1_5 l1_5.length c1_5, .slice A1_6 l1_6.length c1_6] 26 (0, 0)) Z3x4 hb); have n2_ := Aside0.mk (blk_below (g := gb131) (o := .cells #[.int .i64 0, .int .i64 0, .int .i64 0, .int .i64 0, .slice none 0 0, .slice none 0 0, .slice none 0 0] 26 (0, 0)) Z3x10 hb); have n3_ := Aside0.mk (below_step Z3x1 hb); clear BK129; clear BK130; clear BK131; clear HB; have BK129 := n0_; have BK130 := n1_; have BK131 := n2_; have HB := n3_; clear n0_ n1_ n2_ n3_; (try clear hb); (try clear hb2); (try clear hk); (try clear hi); have hnb32 := NB130_131.out; have hnc32 := NB131_130.out; obtain ⟨hcz33_0, hcz33_1, hcz33_2, hcz33_3, hcz33_4, hcz33_5, hcz33_6⟩ := cz7 BK130.out; obtain ⟨hfz33_0, hfz33_1, hfz33_2, hfz33_3, hfz33_4, hfz33_5, hfz33_6⟩ := fz7 BK130.out) | (go_at_call 39; (with_reducible refine (spec_SketchOk.calls k a1_0 a1_1 a1_2 a1_3 _ _ l1_4 _ _ l1_5 _ _ l1_6 false _ ?side1 ?side2 ?side3 ?side4 ?side5 ?side6 A5.out).mono ?_); (case side1 => exact Z3x17); (case side2 => exact HC1_4.out); (case side3 => exact Z3x18); (case side4 => exact HC1_5.out); (case side5 => exact Z3x19); (case side6 => exact HC1_6.out); rintro e w34 ⟨rfl, hb⟩; have n0_ := Aside0.mk (blk_below (g := gb129) (o := .cells #[.int .i64 a0_0, .int .i64 a0_1, .int .i64 a0_2, .int .i64 a0_3, .slice A0_4 l0_4.length c0_4, .slice A0_5 l0_5.length c0_5, .slice A0_6 l0_6.length c0_6] 26 (0, 0)) Z3x0 hb); have n1_ := Aside0.mk (blk_below (g := gb130) (o := .cells #[.int .i64 a1_0, .int .i64 a1_1, .int .i64 a1_2, .int .i64 a1_3, .slice A1_4 l1_4.length c1_4, .slice A1_5 l1_5.length c1_5, .slice A1_6 l1_6.length c1_6] 26 (0, 0)) Z3x4 hb); have n2_ := Aside0.mk (blk_below (g := gb131) (o := .cells #[.int .i64 0, .int .i64 0, .int .i64 0, .int .i64 0, .slice none 0 0, .slice none 0 0, .slice none 0 0] 26 (0, 0)) Z3x10 hb); have n3_ := Aside0.mk (below_step Z3x1 hb); clear BK129; clear BK130; clear BK131; clear HB; have BK129 := n0_; have BK130 := n1_; have BK131 := n2_; have HB := n3_; clear n0_ n1_ n2_ n3_; (try clear hb); (try clear hb2); (try clear hk); (try clear hi); obtain ⟨hcz35_0, hcz35_1, hcz35_2, hcz35_3, hcz35_4, hcz35_5, hcz35_6⟩ := cz7 BK131.out; obtain ⟨hfz35_0, hfz35_1, hfz35_2, hfz35_3, hfz35_4, hfz35_5, hfz35_6⟩ := fz7 BK131.out))
   refine bodyPost_ret (results_ct rfl _ _ gb131 26 #[.int .i64 0, .int .i64 0, .int .i64 0, .int .i64 0, .slice none 0 0, .slice none 0 0, .slice none 0 0] (0, 0) _ rfl Z3x3 Try.underlying26 rfl (by kernel_rfl)) rfl ?_
   exact ⟨_, _, _, Z3x20, Z3x16, Z3x16, by first | exact Kd.S_nil _ _ _ _ _ | exact Kd.N_nil _ _ _ _ _ | exact Kd.V_nil _ _ _ _ _ | exact Kd.Q_nil _ _ _ _ _ | exact Kd.R_nil _ _ _ _ _, Z3x1⟩
 ·replace c4 := Bool.eq_false_iff.mpr c4
  subst c4
  have H1 : (some (0, 0, 0, 0, ([] : List Int), ([] : List Int), ([] : List (List Int)), false)) = some (r1, r2, r3, r4, r5, r6, r7, r8) := by rw [if_neg (show ¬ (false = true) by decide)] at H; exact H
  clear H
  have H := H1
  clear H1
  simp only [Option.some.injEq, Prod.mk.injEq] at H
  obtain ⟨rfl, rfl, rfl, rfl, rfl, rfl, rfl, rfl⟩ := H
  go_enter Try.func18, Try.ntmps18
  go_wp2_with (first | ((with_reducible refine gate_dst (N := 2) rfl ?_); refine box_event ?hg (N := 2) ?hd (cs := #[.int .i64 a0_0, .int .i64 a0_1, .int .i64 a0_2, .int .i64 a0_3, .slice A0_4 l0_4.length c0_4, .slice A0_5 l0_5.length c0_5, .slice A0_6 l0_6.length c0_6]) (t := 26) ?hr ?_; (case hd => rfl); (case hg => rfl); (case hr => first | (go_simp; done) | (go_simp; rfl)); intro gb129 hg w36 hbox hb; have n0_ := Aside0.mk (below_step Z3x2 hb); have n1_ := Aside0.mk (hbox); have n2_ := Aside0.mk ((by rw [hg]; exact (below_size Z3x2) : w.heap.size ≤ gb129)); have n3_ := Aside0.mk ((by rw [hg]; exact (below_size Z3x2) : w.heap.size ≤ gb129)); clear HB; have HB := n0_; have BK129 := n1_; have GW129 := n2_; have GE129 := n3_; clear n0_ n1_ n2_ n3_; clear hb hbox hg) | ((with_reducible refine gate_dst (N := 3) rfl ?_); refine box_event ?hg (N := 3) ?hd (cs := #[.int .i64 a1_0, .int .i64 a1_1, .int .i64 a1_2, .int .i64 a1_3, .slice A1_4 l1_4.length c1_4, .slice A1_5 l1_5.length c1_5, .slice A1_6 l1_6.length c1_6]) (t := 26) ?hr ?_; (case hd => rfl); (case hg => rfl); (case hr => first | (go_simp; done) | (go_simp; rfl)); intro gb130 hg w37 hbox hb; have n0_ := Aside0.mk (blk_below (g := gb129) (o := .cells #[.int .i64 a0_0, .int .i64 a0_1, .int .i64 a0_2, .int .i64 a0_3, .slice A0_4 l0_4.length c0_4, .slice A0_5 l0_5.length c0_5, .slice A0_6 l0_6.length c0_6] 26 (0, 0)) Z3x0 hb); have n1_ := Aside0.mk (below_step Z3x6 hb); have n2_ := Aside0.mk (hbox); have n3_ := Aside0.mk ((by rw [hg]; exact (below_size Z3x6) : w.heap.size ≤ gb130)); have n4_ := Aside0.mk ((by rw [hg]; exact (below_size Z3x6) : w.heap.size ≤ gb130)); have n5_ := Aside0.mk ((Z3x7 : gb129 ≠ gb130)); have n6_ := Aside0.mk ((Z3x8 : gb130 ≠ gb129)); clear BK129; clear HB; have BK129 := n0_; have HB := n1_; have BK130 := n2_; have GW130 := n3_; have GE130 := n4_; have NB129_130 := n5_; have NB130_129 := n6_; clear n0_ n1_ n2_ n3_ n4_ n5_ n6_; clear hb hbox hg) | ((with_reducible refine gate_dst (N := 4) rfl ?_); refine box_event ?hg (N := 4) ?hd (cs := #[.int .i64 0, .int .i64 0, .int .i64 0, .int .i64 0, .slice none 0 0, .slice none 0 0, .slice none 0 0]) (t := 26) ?hr ?_; (case hd => rfl); (case hg => rfl); (case hr => first | (go_simp; done) | (go_simp; rfl)); intro gb131 hg w38 hbox hb; have n0_ := Aside0.mk (blk_below (g := gb129) (o := .cells #[.int .i64 a0_0, .int .i64 a0_1, .int .i64 a0_2, .int .i64 a0_3, .slice A0_4 l0_4.length c0_4, .slice A0_5 l0_5.length c0_5, .slice A0_6 l0_6.length c0_6] 26 (0, 0)) Z3x0 hb); have n1_ := Aside0.mk (blk_below (g := gb130) (o := .cells #[.int .i64 a1_0, .int .i64 a1_1, .int .i64 a1_2, .int .i64 a1_3, .slice A1_4 l1_4.length c1_4, .slice A1_5 l1_5.length c1_5, .slice A1_6 l1_6.length c1_6] 26 (0, 0)) Z3x4 hb); have n2_ := Aside0.mk (below_step Z3x5 hb); have n3_ := Aside0.mk (hbox); have n4_ := Aside0.mk ((by rw [hg]; exact (below_size Z3x5) : w.heap.size ≤ gb131)); have n5_ := Aside0.mk ((by rw [hg]; exact (below_size Z3x5) : w.heap.size ≤ gb131)); have n6_ := Aside0.mk ((Z3x7 : gb129 ≠ gb131)); have n7_ := Aside0.mk ((Z3x8 : gb131 ≠ gb129)); have n8_ := Aside0.mk ((Z3x14 : gb130 ≠ gb131)); have n9_ := Aside0.mk ((Z3x15 : gb131 ≠ gb130)); clear BK129; clear BK130; clear HB; have BK129 := n0_; have BK130 := n1_; have HB := n2_; have BK131 := n3_; have GW131 := n4_; have GE131 := n5_; have NB129_131 := n6_; have NB131_129 := n7_; have NB130_131 := n8_; have NB131_130 := n9_; clear n0_ n1_ n2_ n3_ n4_ n5_ n6_ n7_ n8_ n9_; clear hb hbox hg; have hnb39 := NB129_130.out; have hnc39 := NB130_129.out; have hnb40 := NB129_131.out; have hnc40 := NB131_129.out; obtain ⟨hcz41_0, hcz41_1, hcz41_2, hcz41_3, hcz41_4, hcz41_5, hcz41_6⟩ := cz7 BK129.out; obtain ⟨hfz41_0, hfz41_1, hfz41_2, hfz41_3, hfz41_4, hfz41_5, hfz41_6⟩ := fz7 BK129.out) | ((with_reducible refine gate_callee (f := 39) rfl ?_); refine goesL_ (some 7) rfl rfl Try.func39 (by kernel_rfl) rfl #[.agg #[.int .i64 a0_0, .int .i64 a0_1, .int .i64 a0_2, .int .i64 a0_3, .slice A0_4 l0_4.length c0_4, .slice A0_5 l0_5.length c0_5, .slice A0_6 l0_6.length c0_6]] rfl Z3x9 ?_; (with_reducible refine (spec_SketchOk.calls k a0_0 a0_1 a0_2 a0_3 _ _ l0_4 _ _ l0_5 _ _ l0_6 false _ ?side1 ?side2 ?side3 ?side4 ?side5 ?side6 A3.out).mono ?_); (case side1 => exact Z3x11); (case side2 => exact HC0_4.out); (case side3 => exact Z3x12); (case side4 => exact HC0_5.out); (case side5 => exact Z3x13); (case side6 => exact HC0_6.out); rintro e w42 ⟨rfl, hb⟩; refine ⟨_, rfl, ?_⟩; have n0_ := Aside0.mk (blk_below (g := gb129) (o := .cells #[.int .i64 a0_0, .int .i64 a0_1, .int .i64 a0_2, .int .i64 a0_3, .slice A0_4 l0_4.length c0_4, .slice A0_5 l0_5.length c0_5, .slice A0_6 l0_6.length c0_6] 26 (0, 0)) Z3x0 hb); have n1_ := Aside0.mk (blk_below (g := gb130) (o := .cells #[.int .i64 a1_0, .int .i64 a1_1, .int .i64 a1_2, .int .i64 a1_3, .slice A1_4 l1_4.length c1_4, .slice A1_5 l1_5.length c1_5, .slice A1_6 l1_6.length c1_6] 26 (0, 0)) Z3x4 hb); have n2_ := Aside0.mk (blk_below (g := gb131) (o := .cells #[.int .i64 0, .int .i64 0, .int .i64 0, .int .i64 0, .slice none 0 0, .slice none 0 0, .slice none 0 0] 26 (0, 0)) Z3x10 hb); have n3_ := Aside0.mk (below_step Z3x1 hb); clear BK129; clear BK130; clear BK131; clear HB; have BK129 := n0_; have BK130 := n1_; have BK131 := n2_; have HB := n3_; clear n0_ n1_ n2_ n3_; (try clear hb); (try clear hb2); (try clear hk); (try clear hi); have hnb43 := NB131_130.out; have hnc43 := NB130_131.out; obtain ⟨hcz44_0, hcz44_1, hcz44_2, hcz44_3, hcz44_4, hcz44_5, hcz44_6⟩ := cz7 BK131.out; obtain ⟨hfz44_0, hfz44_1, hfz44_2, hfz44_3, hfz44_4, hfz44_5, hfz44_6⟩ := fz7 BK131.out))
  refine bodyPost_ret (results_ct rfl _ _ gb131 26 #[.int .i64 0, .int .i64 0, .int .i64 0, .int .i64 0, .slice none 0 0, .slice none 0 0, .slice none 0 0] (0, 0) _ rfl Z3x3 Try.underlying26 rfl (by kernel_rfl)) rfl ?_
  exact ⟨_, _, _, Z3x20, Z3x16, Z3x16, by first | exact Kd.S_nil _ _ _ _ _ | exact Kd.N_nil _ _ _ _ _ | exact Kd.V_nil _ _ _ _ _ | exact Kd.Q_nil _ _ _ _ _ | exact Kd.R_nil _ _ _ _ _, Z3x1⟩

end Go.Proofs.Ytfknjoebomicnaa.PFnMerged
