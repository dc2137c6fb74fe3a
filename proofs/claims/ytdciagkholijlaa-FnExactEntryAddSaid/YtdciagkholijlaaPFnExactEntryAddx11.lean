-- Written by this session's changed copy of the kit's printer (wip/patch_print.py): not the kit's own print.
import Derived.Test.YtdciagkholijlaaPFnExactEntryAddx0
import Derived.Test.YtdciagkholijlaaPFnExactEntryAddx10
namespace Go.Proofs.Ytdciagkholijlaa.PFnExactEntryAdd
open Go.RowKit Go.Proofs.YtdciagkholijlaaW.PrintWords Go.Proofs.YtdciagkholijlaaW.PrintLast Go.Proofs.YtdciagkholijlaaW.PrintMore
attribute [local go_sem] max2_int min2_int max_two min_two max_three min_three max_four min_four   -- for this text's walks alone
set_option linter.unusedVariables false
set_option linter.unusedSimpArgs false
theorem Z11x0 {p : Prop} (h : p := by repeat (first | (with_reducible first | exact HB.out | apply below_alloc | apply pw_below_drewN | apply below_drew1 | refine below_set ?_ GE275.out) | exact HB.out)) : p := h
theorem Z11x1 {p : Prop} (h : p := by (with_reducible repeat (first | refine blk_drewN ?_ _ | refine blk_drew ?_ | refine blk_alloc ?_ _)); exact BK275.out) : p := h
theorem Z11x2 {p : Prop} (h : p := by first | (with_reducible assumption) | assumption) : p := h
theorem Z11x3 {p : Prop} (h : p := by first | rfl | (simp; done) | (simp [*]; done)) : p := h
theorem Z11x4 {p : Prop} (h : p := by (with_reducible repeat (first | apply Kd.R_alloc | apply Kd.R_drewN | apply Kd.R_drew)); exact HO_5.out) : p := h
theorem Z11x5 {p : Prop} (h : p := by repeat (first | (with_reducible first | exact HB.out | apply below_alloc | apply pw_below_drewN | apply below_drew1) | exact HB.out)) : p := h

def spec_l5Put.l0 : Nat → List (S70) → List (S70) → Bool → Int → Int → Int → Option ((List (S70)))
 | 0, _, _, _, _, _, _ => none
 | k + 1, x0, x5, x6, x7, x276000, x276001 => if x7 < (x0.length : Int) then (if 0 ≤ x7 then (if (wrap64 (((rd_T70 x0 x7).f1) + 1)) < x276000 then (if x5.length < 8796093022208 then (spec_l5Put.l0 k x0 (x5 ++ [(⟨(rd_T70 x0 x7).f0, (rd_T70 x0 x7).f1⟩ : S70)]) x6 (wrap64 (x7 + 1)) x276000 x276001) else (none)) else (if ((rd_T70 x0 x7).f0) > (wrap64 (x276001 + 1)) then (if x6 = true then (if x5.length < 8796093022208 then (spec_l5Put.l0 k x0 (x5 ++ [(⟨(rd_T70 x0 x7).f0, (rd_T70 x0 x7).f1⟩ : S70)]) x6 (wrap64 (x7 + 1)) x276000 x276001) else (none)) else (if x5.length < 8796093022208 then ((some (x5 ++ [(⟨x276000, x276001⟩ : S70)] : List (S70))).bind fun y292 => (if y292.length < 8796093022208 then (spec_l5Put.l0 k x0 (y292 ++ [(⟨(rd_T70 x0 x7).f0, (rd_T70 x0 x7).f1⟩ : S70)]) true (wrap64 (x7 + 1)) x276000 x276001) else (none))) else (none))) else ((spec_l1Min.f x276000 ((rd_T70 x0 x7).f0)).bind fun t300 => ((spec_l1Max.f x276001 ((rd_T70 x0 x7).f1)).bind fun t302 => (spec_l5Put.l0 k x0 x5 x6 (wrap64 (x7 + 1)) t300 t302))))) else (none)) else (if x6 = true then (some x5) else (if x5.length < 8796093022208 then (some (x5 ++ [(⟨x276000, x276001⟩ : S70)])) else (none)))
def spec_l5Put.f (k : Nat) (l0 : List (S70)) (a1_0 : Int) (a1_1 : Int) : Option ((List (S70))) := spec_l5Put.l0 k l0 (([] : List (S70))) false 0 a1_0 a1_1
theorem spec_l5Put.mono_l : ∀ k, (∀ y0 y1 y2 y3 y4 y5, LeO (spec_l5Put.l0 k y0 y1 y2 y3 y4 y5) (spec_l5Put.l0 (k + 1) y0 y1 y2 y3 y4 y5))
 | 0 => fun _ _ _ _ _ _ r h => by simp [spec_l5Put.l0] at h
 | k + 1 => by
  have ih0 := spec_l5Put.mono_l k
  ·intro y0 y1 y2 y3 y4 y5
   unfold spec_l5Put.l0
   repeat' first
   | (with_reducible exact ih0 _ _ _ _ _ _)
   | (with_reducible exact LeO.refl _)
   | (with_reducible exact LeO.none _)
   | (with_reducible refine LeO.ite ?_ ?_)
   | (with_reducible refine LeO.bind ?_ (fun _ => ?_))
   | exact ih0 _ _ _ _ _ _
   | exact LeO.none _
   | refine LeO.ite ?_ ?_
   | refine LeO.bind ?_ (fun _ => ?_)
theorem spec_l5Put.mono : ∀ a0 a1 a2 k, LeO (spec_l5Put.f k a0 a1 a2) (spec_l5Put.f (k + 1) a0 a1 a2) := by
 intro a0 a1 a2 k
 have ih0 := spec_l5Put.mono_l k
 unfold spec_l5Put.f
 repeat' first
   | (with_reducible exact ih0 _ _ _ _ _ _)
   | (with_reducible exact LeO.refl _)
   | (with_reducible exact LeO.none _)
   | (with_reducible refine LeO.ite ?_ ?_)
   | (with_reducible refine LeO.bind ?_ (fun _ => ?_))
   | exact ih0 _ _ _ _ _ _
   | exact LeO.none _
   | refine LeO.ite ?_ ?_
   | refine LeO.bind ?_ (fun _ => ?_)
def spec_l5Put.T6 : Bool × List (List Nat × List Nat) := (true, [([], []), ([0], [0]), ([], []), ([], []), ([2, 3], [2, 3]), ([4], [4]), ([5], [5]), ([1, 6], [1, 6]), ([], []), ([8], [8]), ([], []), ([], []), ([10, 11], [10, 11]), ([12], [12]), ([13], [13]), ([9, 14, 7], [9, 14]), ([7, 15], [7, 15]), ([16, 15, 0, 1, 2, 3, 4, 5, 6, 7, 8, 9, 10, 11, 12, 13, 14, 15, 16], [16])])
def spec_l5Put.B6 : List Nat := [0, 1, 0, 0, 12, 28, 60, 127, 0, 256, 0, 0, 3072, 7168, 15360, 32767, 65535, 131071]
theorem spec_l5Put.tab6 : rtab .any (opsOf Try.f106 6) = spec_l5Put.T6 := by kernel_rfl
theorem spec_l5Put.bits6 : waitsOk spec_l5Put.T6.2 spec_l5Put.B6 = true := by kernel_rfl
def spec_l5Put.T7 : Bool × List (List Nat × List Nat) := (true, [([], []), ([], []), ([0, 1], [0, 1]), ([2], [2]), ([3], [3]), ([4], [4]), ([], []), ([6], [6]), ([5, 7], [5, 7]), ([8], [8])])
def spec_l5Put.B7 : List Nat := [0, 0, 3, 7, 15, 31, 0, 64, 255, 511]
theorem spec_l5Put.tab7 : rtab .any (opsOf Try.f106 7) = spec_l5Put.T7 := by kernel_rfl
theorem spec_l5Put.bits7 : waitsOk spec_l5Put.T7.2 spec_l5Put.B7 = true := by kernel_rfl
def spec_l5Put.T9 : Bool × List (List Nat × List Nat) := (true, [([], []), ([], []), ([0, 1], [0, 1]), ([2], [2]), ([3], [3]), ([], []), ([5], [5]), ([6], [6]), ([4, 7], [4, 7]), ([8], [8])])
def spec_l5Put.B9 : List Nat := [0, 0, 3, 7, 15, 0, 32, 96, 255, 511]
theorem spec_l5Put.tab9 : rtab .any (opsOf Try.f106 9) = spec_l5Put.T9 := by kernel_rfl
theorem spec_l5Put.bits9 : waitsOk spec_l5Put.T9.2 spec_l5Put.B9 = true := by kernel_rfl
set_option maxHeartbeats 8000000 in
set_option maxRecDepth 100000 in
theorem spec_l5Put.calls (k : Nat) (A0 : Option Addr) (c0 : Nat) (l0 : List (S70)) (a1_0 : Int) (a1_1 : Int) (r : List (S70)) (w : World) (hr0 : Kd.C k70 w A0 l0.length l0) (hc0 : l0.length ≤ c0) (h : spec_l5Put.f k l0 a1_0 a1_1 = some r) :
  Calls Try.prog 106 #[.slice A0 l0.length c0, .agg #[.int .i64 a1_0, .int .i64 a1_1]] w fun e w' => ∃ v0_ : Value, e = .returned (v0_) ∧ Kd.R k70 70 w' w.heap.size (fun _ => True) v0_ r ∧ Below w.heap.size w w' := by
 have hu70 := Try.underlying70
 have HR0 := Aside0.mk hr0
 have HC0 := Aside0.mk hc0
 clear hr0 hc0
 have HB := Aside0.mk (Below.refl w.heap.size w)
 have H : (spec_l5Put.l0 k l0 (([] : List (S70))) false 0 a1_0 a1_1) = some r := h
 clear h
 obtain ⟨y276, hy276⟩ : ∃ y_ : List (S70), y_ = (([] : List (S70))) := ⟨_, rfl⟩
 replace H : (spec_l5Put.l0 k l0 y276 false 0 a1_0 a1_1) = some r := by first | (rw [hy276]; with_reducible exact H) | (have H2_ := (Option.bind_some _ _).symm.trans H; rw [hy276]; with_reducible exact H2_) | (have H2_ := (Option.bind_some _ _).symm.trans H; with_reducible exact H2_) | with_reducible exact H | (rw [hy276]; exact H) | exact H
 have Ny276 := Aside0.mk hy276
 clear hy276
 have H' := Aside0.mk H
 clear H
 go_enter Try.func106, Try.ntmps106
 go_wp2_with (first | ((with_reducible refine gate_dst (N := 3) rfl ?_); refine box_event ?hg (N := 3) ?hd (cs := #[.int .i64 a1_0, .int .i64 a1_1]) (t := 70) ?hr ?_; (case hd => rfl); (case hg => rfl); (case hr => first | (go_simp; done) | (go_simp; rfl)); intro gb275 hg w3 hbox hb; have n0_ := Aside0.mk (below_step Z11x5 hb); have n1_ := Aside0.mk (hbox); have n2_ := Aside0.mk ((by rw [hg]; exact (below_size Z11x5) : w.heap.size ≤ gb275)); have n3_ := Aside0.mk ((by rw [hg]; exact (below_size Z11x5) : w.heap.size ≤ gb275)); clear HB; have HB := n0_; have BK275 := n1_; have GW275 := n2_; have GE275 := n3_; clear n0_ n1_ n2_ n3_; clear hb hbox hg) | ((with_reducible refine gate_dst (N := 8) rfl ?_); refine Kd.R_lit k70 _ 70 ?hg (N := 8) ?hd (xs := ([] : List (S70))) (inner := []) (ok := fun _ => True) (okp := fun _ => True) ?hr ?hp (fun _ hk => hk) trivial (Below.refl _ _) (Nat.le_refl _) (by simp) ?_; (case hd => rfl); (case hg => rfl); (case hr => first | (go_simp; done) | (go_simp; rfl)); (case hp => exact (Reps.none _ _)); intro v277 w4 ho5 hb hg_ hnew_; clear hg_ hnew_; (first | rw [← Ny276.out] at ho5 | (simp only [Int.reduceToNat] at ho5; rw [← Ny276.out] at ho5)); have n0_ := Aside0.mk (Kd.R_lower (Kd.R_newB ho5 (g := gb275) (o := .cells #[.int .i64 a1_0, .int .i64 a1_1] 70 (0, 0)) Z11x1) (below_size Z11x0)); have n1_ := Aside0.mk (blk_below (g := gb275) (o := .cells #[.int .i64 a1_0, .int .i64 a1_1] 70 (0, 0)) Z11x1 hb); have n2_ := Aside0.mk (below_step Z11x0 hb); clear BK275; clear HB; have HO278 := n0_; have BK275 := n1_; have HB := n2_; clear n0_ n1_ n2_; clear hb ho5))
 go_loopg [5, 6, 7] k (fun kq v5 v6 v7 w' => ∃ (x5_1 : List (S70)) (x6_1 : Bool) (x7_1 : Int) (x276000_1 : Int) (x276001_1 : Int), v6 = .bool x6_1 ∧ v7 = .int .i64 x7_1 ∧ Aside0 (spec_l5Put.l0 kq l0 x5_1 x6_1 x7_1 x276000_1 x276001_1 = some r) ∧ Aside0 (kq ≤ k) ∧ Aside0 (Kd.R k70 70 w' w.heap.size (fun k_ => k_ ≠ gb275) v5 x5_1) ∧ Aside0 (w'.heap[gb275]? = some (.cells #[.int .i64 x276000_1, .int .i64 x276001_1] 70 (0, 0))) ∧ Aside0 (Below w.heap.size w w'))
 case atStart => exact ⟨(y276), (false), (0), (a1_0), (a1_1), Z11x3, Z11x3, H', ⟨Nat.le_refl _⟩, ⟨by (with_reducible repeat (first | apply Kd.R_alloc | apply Kd.R_drewN | apply Kd.R_drew)); exact Kd.R_mono HO278.out (fun _ hk => hk.2)⟩, ⟨Z11x1⟩, ⟨Z11x0⟩⟩
 case round =>
  clear H'
  try clear c1
  try clear p2
  (try clear BK275)
  obtain ⟨x5_1, x6_1, x7_1, x276000_1, x276001_1, rfl, rfl, HA, HK1, HO_5, BK275, HB⟩ := hrel
  cases gk with
  | zero => exact absurd HA.out (by simp [spec_l5Put.l0])
  | succ k1 =>
   have H := HA.out
   clear HA
   simp only [spec_l5Put.l0] at H
   by_cases c6 : x7_1 < (l0.length : Int)
   ·rw [if_pos c6] at H
    have c6b0 : decide (x7_1 < (l0.length : Int)) = true := decide_eq_true c6;clear c6
    by_cases c7 : 0 ≤ x7_1
    ·rw [if_pos c7] at H
     have c7b0 : decide (0 ≤ x7_1) = true := decide_eq_true c7;clear c7
     by_cases c8 : (wrap64 (((rd_T70 l0 x7_1).f1) + 1)) < x276000_1
     ·rw [if_pos c8] at H
      have c8b0 : decide ((wrap64 (((rd_T70 l0 x7_1).f1) + 1)) < x276000_1) = true := decide_eq_true c8
      (try (have c8b1 : decide ((IntKind.i64.wrap (((rd_T70 l0 x7_1).f1) + 1)) < x276000_1) = true := by simp only [i64_w]; first | exact decide_eq_true c8 | simpa using c8))
      clear c8
      by_cases c9 : x5_1.length < 8796093022208
      ·rw [if_pos c9] at H
       have LMc9 := Aside0.mk c9;clear c9;obtain ⟨y284, hy284⟩ : ∃ y_ : List (S70), y_ = (x5_1 ++ [(⟨(rd_T70 l0 x7_1).f0, (rd_T70 l0 x7_1).f1⟩ : S70)]) := ⟨_, rfl⟩
       replace H : (spec_l5Put.l0 k1 l0 y284 x6_1 (wrap64 (x7_1 + 1)) x276000_1 x276001_1) = some r := by first | (rw [hy284]; with_reducible exact H) | (have H2_ := (Option.bind_some _ _).symm.trans H; rw [hy284]; with_reducible exact H2_) | (have H2_ := (Option.bind_some _ _).symm.trans H; with_reducible exact H2_) | with_reducible exact H | (rw [hy284]; exact H) | exact H
       have Ny284 := Aside0.mk hy284;clear hy284;have H' := Aside0.mk H;clear H
       try go_wp2
       have n0_ := Aside0.mk (Kd.R_drew HO_5.out);have n1_ := Aside0.mk (blk_drew BK275.out);have n2_ := Aside0.mk (below_drew1 HB.out);clear HO_5;clear BK275;clear HB;have HO_5 := n0_;have BK275 := n1_;have HB := n2_;clear n0_ n1_ n2_;have p282 : 0 ≤ (x7_1 : Int) := of_decide_eq_true Z11x2;have q282 : x7_1 < (l0.length : Int) := of_decide_eq_true Z11x2;obtain ⟨ad282, e282, hx282_0, hx282_1⟩ := at_T70 HR0.out x7_1 p282 q282;have hw282_1 := hx282_1;have hw282_0 := hx282_0
       cases e282
       replace hx282_0 := czB HB.out hx282_0;replace hx282_1 := czB HB.out hx282_1;replace p282 := eq_true p282;replace q282 := eq_true q282;refine start_ (n := 10) (S := fun w' => w'.cell? ⟨gb275, 0, none⟩ = some (.int .i64 x276000_1) ∧ w'.cell? ⟨gb275, 1, none⟩ = some (.int .i64 x276001_1) ∧ w'.cell? (ad282.add ((x7_1).toNat * 2)) = some (.int .i64 ((rd_T70 l0 x7_1).f0)) ∧ w'.cell? ⟨(ad282.add ((x7_1).toNat * 2)).block, (ad282.add ((x7_1).toNat * 2)).off + 1, none⟩ = some (.int .i64 ((rd_T70 l0 x7_1).f1))) (ds := []) #[false, false, false, false, false, false, false, false, false, false] (by kernel_rfl) rfl rfl ⟨(blk_cell BK275.out 0).trans rfl, (blk_cell BK275.out 1).trans rfl, ((HB.out.cell (World.block_lt_of_cell? w _ hw282_0)).trans hw282_0), ((HB.out.cell (World.block_lt_of_cell? w _ hw282_1)).trans hw282_1)⟩ (fun hHeld => ?_); refine with_tabW spec_l5Put.tab7 spec_l5Put.bits7 (fun HT_ HW_ => ?_);generalize wr.drew = w10 at HO_5 BK275 HB hx282_0 hx282_1 hHeld ⊢;refine pure_ (i := 0) (N := some 33) (v := ?_) (a' := ?_) #[true, false, false, false, false, false, false, false, false, false] rfl rfl (any_of HT_.out (by kernel_rfl)) (fun _ _ _ h => h) (Or.inl ⟨by rfl, ?_⟩) ?_ ?_
       rotate_left
       ·intro w'
        go_simp
        with_reducible rfl
       rotate_left
       ·simp only [czP]
        rfl
       refine pure_ (i := 1) (N := some 34) (v := ?_) (a' := ?_) #[true, true, false, false, false, false, false, false, false, false] rfl rfl (any_of HT_.out (by kernel_rfl)) (fun _ _ _ h => h) (Or.inl ⟨by rfl, ?_⟩) ?_ ?_
       rotate_left
       ·intro w'
        go_simp
        with_reducible rfl
       rotate_left
       ·simp only [czP]
        rfl
       refine pure_ (i := 2) (N := some 35) (v := ?_) (a' := ?_) #[true, true, true, false, false, false, false, false, false, false] rfl rfl (any_of HT_.out (by kernel_rfl)) (fun _ _ _ h => h) (Or.inl ⟨by rfl, ?_⟩) ?_ ?_
       rotate_left
       ·intro w'
        go_simp
        with_reducible rfl
       rotate_left
       ·simp only [czP]
        rfl
       refine pure_ (i := 3) (N := some 36) (v := ?_) (a' := ?_) #[true, true, true, true, false, false, false, false, false, false] rfl rfl (any_of HT_.out (by kernel_rfl)) (fun _ _ _ h => h) (Or.inl ⟨by rfl, ?_⟩) ?_ ?_
       rotate_left
       ·intro w'
        go_simp
        with_reducible rfl
       rotate_left
       ·simp only [czP]
        rfl
       refine pure_ (i := 6) (N := some 39) (v := ?_) (a' := ?_) #[true, true, true, true, false, false, true, false, false, false] rfl rfl (any_of HT_.out (by kernel_rfl)) (fun _ _ _ h => h) (Or.inl ⟨by rfl, ?_⟩) ?_ ?_
       rotate_left
       ·intro w'
        go_simp
        with_reducible rfl
       rotate_left
       ·simp only [czP]
        rfl
       refine take_ (i := 4) (N := some 37) (v := ?_) (a' := ?_) #[true, true, true, true, true, false, true, false, false, false] rfl rfl (take_ofW HT_.out HW_.out (by kernel_rfl)) (fun _ _ _ h => h) (Or.inl ⟨by rfl, ?_⟩) hHeld ?_ ?_
       rotate_left
       ·rintro w' ⟨s0, s1, s2, s3⟩
        go_simp
        with_reducible rfl
       rotate_left
       ·simp only [czP]
        rfl
       refine pure_ (i := 5) (N := some 38) (v := ?_) (a' := ?_) #[true, true, true, true, true, true, true, false, false, false] rfl rfl (any_of HT_.out (by kernel_rfl)) (fun _ _ _ h => h) (Or.inl ⟨by rfl, ?_⟩) ?_ ?_
       rotate_left
       ·intro w'
        go_simp
        with_reducible rfl
       rotate_left
       ·simp only [czP]
        rfl
       refine take_ (i := 7) (N := some 40) (v := ?_) (a' := ?_) #[true, true, true, true, true, true, true, true, false, false] rfl rfl (take_ofW HT_.out HW_.out (by kernel_rfl)) (fun _ _ _ h => h) (Or.inl ⟨by rfl, ?_⟩) hHeld ?_ ?_
       rotate_left
       ·rintro w' ⟨s0, s1, s2, s3⟩
        go_simp
        with_reducible rfl
       rotate_left
       ·simp only [czP]
        rfl
       refine pure_ (i := 8) (N := some 41) (v := ?_) (a' := ?_) #[true, true, true, true, true, true, true, true, true, false] rfl rfl (any_of HT_.out (by kernel_rfl)) (fun _ _ _ h => h) (Or.inl ⟨by rfl, ?_⟩) ?_ ?_
       rotate_left
       ·intro w'
        go_simp
        with_reducible rfl
       rotate_left
       ·simp only [czP]
        rfl
       refine pure_ (i := 9) (N := some 32) (v := ?_) (a' := ?_) #[true, true, true, true, true, true, true, true, true, true] rfl rfl (any_of HT_.out (by kernel_rfl)) (fun _ _ _ h => h) (Or.inl ⟨by rfl, ?_⟩) ?_ ?_
       rotate_left
       ·intro w'
        go_simp
        with_reducible rfl
       rotate_left
       ·simp only [czP]
        rfl
       refine done_ (done_of HT_.out (by kernel_rfl)) ?_;have p283 : 0 ≤ (x7_1 : Int) := of_decide_eq_true Z11x2;have q283 : x7_1 < (l0.length : Int) := of_decide_eq_true Z11x2;obtain ⟨ad283, e283, hx283_0, hx283_1⟩ := at_T70 HR0.out x7_1 p283 q283;obtain rfl : ad282 = ad283 := (by injection e283);replace hx283_0 := czB HB.out hx283_0;replace hx283_1 := czB HB.out hx283_1;replace p283 := eq_true p283;replace q283 := eq_true q283
       try go_wp2_with (first | ((with_reducible refine gate_builtin (b := .append) (xs := #[.tmp 42, .tmp 47]) rfl ?_); at_builtin; refine Kd.R_append k70 (w0 := w) w.heap.size rfl (.tmp 42) (.tmp 47) 32 70 (.agg #[(.int .i64 0), (.int .i64 0)]) 16 rfl Try.underlying32 info70 rfl (by decide) (by omega) u5 x5_1 (⟨(rd_T70 l0 x7_1).f0, (rd_T70 l0 x7_1).f1⟩ : S70) [.int .i64 ((rd_T70 l0 x7_1).f0), .int .i64 ((rd_T70 l0 x7_1).f1)] (fun k_ => k_ ≠ gb275) (fun _ => False) rfl rfl ?aP (fun _ hk => hk.elim) ?aF ?aO ?aB ?aS ?aL ?_; (case aP => exact k70_mkM _ _ _ (⟨(rd_T70 l0 x7_1).f0, (rd_T70 l0 x7_1).f1⟩ : S70)); (case aB => exact Z11x0); (case aF => exact (fun k_ hk => Kd.freshB (g := gb275) (o := .cells #[.int .i64 x276000_1, .int .i64 x276001_1] 70 (0, 0)) Z11x1 k_ hk)); (case aO => exact Z11x4); (case aS => exact (below_size Z11x0)); (case aL => have := LMc9.out; omega); intro v285 w11 ho hb hg hat; rw [← Ny284.out] at ho; have n0_ := Aside0.mk (blk_grown (g := gb275) (o := .cells #[.int .i64 x276000_1, .int .i64 x276001_1] 70 (0, 0)) Z11x1 hg (Kd.R_away HO_5.out (fun _ hk => hk))); have n1_ := Aside0.mk (hb); have n2_ := Aside0.mk (ho); clear BK275; clear HB; clear HO_5; have BK275 := n0_; have HB := n1_; have HO286 := n2_; clear n0_ n1_ n2_; clear ho hb hg hat))
       go_roundg k1
       case measure => have := HK1.out; omega
       case rel => exact ⟨(y284), (x6_1), (wrap64 (x7_1 + 1)), (x276000_1), (x276001_1), Z11x3, Z11x3, H', ⟨by have := HK1.out; omega⟩, ⟨by (with_reducible repeat (first | apply Kd.R_alloc | apply Kd.R_drewN | apply Kd.R_drew)); exact HO286.out⟩, ⟨Z11x1⟩, ⟨Z11x0⟩⟩
      ·rw [if_neg c9] at H
       exact absurd H (by simp)
     ·rw [if_neg c8] at H
      have c8b0 : decide ((wrap64 (((rd_T70 l0 x7_1).f1) + 1)) < x276000_1) = false := decide_eq_false c8
      (try (have c8b1 : decide ((IntKind.i64.wrap (((rd_T70 l0 x7_1).f1) + 1)) < x276000_1) = false := by simp only [i64_w]; first | exact decide_eq_false c8 | simpa using c8))
      clear c8
      by_cases c12 : ((rd_T70 l0 x7_1).f0) > (wrap64 (x276001_1 + 1))
      ·rw [if_pos c12] at H
       have c12b0 : decide ((wrap64 (x276001_1 + 1)) < ((rd_T70 l0 x7_1).f0)) = true := decide_eq_true c12
       (try (have c12b1 : decide ((IntKind.i64.wrap (x276001_1 + 1)) < ((rd_T70 l0 x7_1).f0)) = true := by simp only [i64_w]; first | exact decide_eq_true c12 | simpa using c12))
       clear c12
       by_cases c13 : x6_1 = true
       ·subst c13
        have H1 : (if x5_1.length < 8796093022208 then (spec_l5Put.l0 k1 l0 (x5_1 ++ [(⟨(rd_T70 l0 x7_1).f0, (rd_T70 l0 x7_1).f1⟩ : S70)]) true (wrap64 (x7_1 + 1)) x276000_1 x276001_1) else (none)) = some r := by rw [if_pos rfl] at H; exact H
        clear H;have H := H1;clear H1
        by_cases c14 : x5_1.length < 8796093022208
        ·rw [if_pos c14] at H
         have LMc14 := Aside0.mk c14;clear c14;obtain ⟨y289, hy289⟩ : ∃ y_ : List (S70), y_ = (x5_1 ++ [(⟨(rd_T70 l0 x7_1).f0, (rd_T70 l0 x7_1).f1⟩ : S70)]) := ⟨_, rfl⟩
         replace H : (spec_l5Put.l0 k1 l0 y289 true (wrap64 (x7_1 + 1)) x276000_1 x276001_1) = some r := by first | (rw [hy289]; with_reducible exact H) | (have H2_ := (Option.bind_some _ _).symm.trans H; rw [hy289]; with_reducible exact H2_) | (have H2_ := (Option.bind_some _ _).symm.trans H; with_reducible exact H2_) | with_reducible exact H | (rw [hy289]; exact H) | exact H
         have Ny289 := Aside0.mk hy289;clear hy289;have H' := Aside0.mk H;clear H
         try go_wp2
         have n0_ := Aside0.mk (Kd.R_drew HO_5.out);have n1_ := Aside0.mk (blk_drew BK275.out);have n2_ := Aside0.mk (below_drew1 HB.out);clear HO_5;clear BK275;clear HB;have HO_5 := n0_;have BK275 := n1_;have HB := n2_;clear n0_ n1_ n2_;have p282 : 0 ≤ (x7_1 : Int) := of_decide_eq_true Z11x2;have q282 : x7_1 < (l0.length : Int) := of_decide_eq_true Z11x2;obtain ⟨ad282, e282, hx282_0, hx282_1⟩ := at_T70 HR0.out x7_1 p282 q282;have hw282_1 := hx282_1;have hw282_0 := hx282_0
         cases e282
         replace hx282_0 := czB HB.out hx282_0;replace hx282_1 := czB HB.out hx282_1;replace p282 := eq_true p282;replace q282 := eq_true q282;refine start_ (n := 10) (S := fun w' => w'.cell? ⟨gb275, 0, none⟩ = some (.int .i64 x276000_1) ∧ w'.cell? ⟨gb275, 1, none⟩ = some (.int .i64 x276001_1) ∧ w'.cell? (ad282.add ((x7_1).toNat * 2)) = some (.int .i64 ((rd_T70 l0 x7_1).f0)) ∧ w'.cell? ⟨(ad282.add ((x7_1).toNat * 2)).block, (ad282.add ((x7_1).toNat * 2)).off + 1, none⟩ = some (.int .i64 ((rd_T70 l0 x7_1).f1))) (ds := []) #[false, false, false, false, false, false, false, false, false, false] (by kernel_rfl) rfl rfl ⟨(blk_cell BK275.out 0).trans rfl, (blk_cell BK275.out 1).trans rfl, ((HB.out.cell (World.block_lt_of_cell? w _ hw282_0)).trans hw282_0), ((HB.out.cell (World.block_lt_of_cell? w _ hw282_1)).trans hw282_1)⟩ (fun hHeld => ?_); refine with_tabW spec_l5Put.tab7 spec_l5Put.bits7 (fun HT_ HW_ => ?_);generalize wr.drew = w15 at HO_5 BK275 HB hx282_0 hx282_1 hHeld ⊢;refine pure_ (i := 0) (N := some 33) (v := ?_) (a' := ?_) #[true, false, false, false, false, false, false, false, false, false] rfl rfl (any_of HT_.out (by kernel_rfl)) (fun _ _ _ h => h) (Or.inl ⟨by rfl, ?_⟩) ?_ ?_
         rotate_left
         ·intro w'
          go_simp
          with_reducible rfl
         rotate_left
         ·simp only [czP]
          rfl
         refine pure_ (i := 1) (N := some 34) (v := ?_) (a' := ?_) #[true, true, false, false, false, false, false, false, false, false] rfl rfl (any_of HT_.out (by kernel_rfl)) (fun _ _ _ h => h) (Or.inl ⟨by rfl, ?_⟩) ?_ ?_
         rotate_left
         ·intro w'
          go_simp
          with_reducible rfl
         rotate_left
         ·simp only [czP]
          rfl
         refine pure_ (i := 2) (N := some 35) (v := ?_) (a' := ?_) #[true, true, true, false, false, false, false, false, false, false] rfl rfl (any_of HT_.out (by kernel_rfl)) (fun _ _ _ h => h) (Or.inl ⟨by rfl, ?_⟩) ?_ ?_
         rotate_left
         ·intro w'
          go_simp
          with_reducible rfl
         rotate_left
         ·simp only [czP]
          rfl
         refine pure_ (i := 3) (N := some 36) (v := ?_) (a' := ?_) #[true, true, true, true, false, false, false, false, false, false] rfl rfl (any_of HT_.out (by kernel_rfl)) (fun _ _ _ h => h) (Or.inl ⟨by rfl, ?_⟩) ?_ ?_
         rotate_left
         ·intro w'
          go_simp
          with_reducible rfl
         rotate_left
         ·simp only [czP]
          rfl
         refine pure_ (i := 6) (N := some 39) (v := ?_) (a' := ?_) #[true, true, true, true, false, false, true, false, false, false] rfl rfl (any_of HT_.out (by kernel_rfl)) (fun _ _ _ h => h) (Or.inl ⟨by rfl, ?_⟩) ?_ ?_
         rotate_left
         ·intro w'
          go_simp
          with_reducible rfl
         rotate_left
         ·simp only [czP]
          rfl
         refine take_ (i := 4) (N := some 37) (v := ?_) (a' := ?_) #[true, true, true, true, true, false, true, false, false, false] rfl rfl (take_ofW HT_.out HW_.out (by kernel_rfl)) (fun _ _ _ h => h) (Or.inl ⟨by rfl, ?_⟩) hHeld ?_ ?_
         rotate_left
         ·rintro w' ⟨s0, s1, s2, s3⟩
          go_simp
          with_reducible rfl
         rotate_left
         ·simp only [czP]
          rfl
         refine pure_ (i := 5) (N := some 38) (v := ?_) (a' := ?_) #[true, true, true, true, true, true, true, false, false, false] rfl rfl (any_of HT_.out (by kernel_rfl)) (fun _ _ _ h => h) (Or.inl ⟨by rfl, ?_⟩) ?_ ?_
         rotate_left
         ·intro w'
          go_simp
          with_reducible rfl
         rotate_left
         ·simp only [czP]
          rfl
         refine take_ (i := 7) (N := some 40) (v := ?_) (a' := ?_) #[true, true, true, true, true, true, true, true, false, false] rfl rfl (take_ofW HT_.out HW_.out (by kernel_rfl)) (fun _ _ _ h => h) (Or.inl ⟨by rfl, ?_⟩) hHeld ?_ ?_
         rotate_left
         ·rintro w' ⟨s0, s1, s2, s3⟩
          go_simp
          with_reducible rfl
         rotate_left
         ·simp only [czP]
          rfl
         refine pure_ (i := 8) (N := some 41) (v := ?_) (a' := ?_) #[true, true, true, true, true, true, true, true, true, false] rfl rfl (any_of HT_.out (by kernel_rfl)) (fun _ _ _ h => h) (Or.inl ⟨by rfl, ?_⟩) ?_ ?_
         rotate_left
         ·intro w'
          go_simp
          with_reducible rfl
         rotate_left
         ·simp only [czP]
          rfl
         refine pure_ (i := 9) (N := some 32) (v := ?_) (a' := ?_) #[true, true, true, true, true, true, true, true, true, true] rfl rfl (any_of HT_.out (by kernel_rfl)) (fun _ _ _ h => h) (Or.inl ⟨by rfl, ?_⟩) ?_ ?_
         rotate_left
         ·intro w'
          go_simp
          with_reducible rfl
         rotate_left
         ·simp only [czP]
          rfl
         refine done_ (done_of HT_.out (by kernel_rfl)) ?_
         try go_wp2
         have n0_ := Aside0.mk (Kd.R_drew HO_5.out);have n1_ := Aside0.mk (blk_drew BK275.out);have n2_ := Aside0.mk (below_drew1 HB.out);clear HO_5;clear BK275;clear HB;have HO_5 := n0_;have BK275 := n1_;have HB := n2_;clear n0_ n1_ n2_;have p287 : 0 ≤ (x7_1 : Int) := of_decide_eq_true Z11x2;have q287 : x7_1 < (l0.length : Int) := of_decide_eq_true Z11x2;obtain ⟨ad287, e287, hx287_0, hx287_1⟩ := at_T70 HR0.out x7_1 p287 q287;have hw287_1 := hx287_1;have hw287_0 := hx287_0;obtain rfl : ad282 = ad287 := (by injection e287);replace hx287_0 := czB HB.out hx287_0;replace hx287_1 := czB HB.out hx287_1;replace p287 := eq_true p287;replace q287 := eq_true q287;refine start_ (n := 10) (S := fun w' => w'.cell? ⟨gb275, 0, none⟩ = some (.int .i64 x276000_1) ∧ w'.cell? ⟨gb275, 1, none⟩ = some (.int .i64 x276001_1) ∧ w'.cell? (ad282.add ((x7_1).toNat * 2)) = some (.int .i64 ((rd_T70 l0 x7_1).f0)) ∧ w'.cell? ⟨(ad282.add ((x7_1).toNat * 2)).block, (ad282.add ((x7_1).toNat * 2)).off + 1, none⟩ = some (.int .i64 ((rd_T70 l0 x7_1).f1))) (ds := []) #[false, false, false, false, false, false, false, false, false, false] (by kernel_rfl) rfl rfl ⟨(blk_cell BK275.out 0).trans rfl, (blk_cell BK275.out 1).trans rfl, ((HB.out.cell (World.block_lt_of_cell? w _ hw287_0)).trans hw287_0), ((HB.out.cell (World.block_lt_of_cell? w _ hw287_1)).trans hw287_1)⟩ (fun hHeld => ?_); refine with_tabW spec_l5Put.tab9 spec_l5Put.bits9 (fun HT_ HW_ => ?_);generalize w15.drew = w16 at HO_5 BK275 HB hx287_0 hx287_1 hHeld ⊢;refine pure_ (i := 0) (N := some 50) (v := ?_) (a' := ?_) #[true, false, false, false, false, false, false, false, false, false] rfl rfl (any_of HT_.out (by kernel_rfl)) (fun _ _ _ h => h) (Or.inl ⟨by rfl, ?_⟩) ?_ ?_
         rotate_left
         ·intro w'
          go_simp
          with_reducible rfl
         rotate_left
         ·simp only [czP]
          rfl
         refine pure_ (i := 1) (N := some 51) (v := ?_) (a' := ?_) #[true, true, false, false, false, false, false, false, false, false] rfl rfl (any_of HT_.out (by kernel_rfl)) (fun _ _ _ h => h) (Or.inl ⟨by rfl, ?_⟩) ?_ ?_
         rotate_left
         ·intro w'
          go_simp
          with_reducible rfl
         rotate_left
         ·simp only [czP]
          rfl
         refine pure_ (i := 2) (N := some 52) (v := ?_) (a' := ?_) #[true, true, true, false, false, false, false, false, false, false] rfl rfl (any_of HT_.out (by kernel_rfl)) (fun _ _ _ h => h) (Or.inl ⟨by rfl, ?_⟩) ?_ ?_
         rotate_left
         ·intro w'
          go_simp
          with_reducible rfl
         rotate_left
         ·simp only [czP]
          rfl
         refine pure_ (i := 3) (N := some 53) (v := ?_) (a' := ?_) #[true, true, true, true, false, false, false, false, false, false] rfl rfl (any_of HT_.out (by kernel_rfl)) (fun _ _ _ h => h) (Or.inl ⟨by rfl, ?_⟩) ?_ ?_
         rotate_left
         ·intro w'
          go_simp
          with_reducible rfl
         rotate_left
         ·simp only [czP]
          rfl
         refine pure_ (i := 5) (N := some 55) (v := ?_) (a' := ?_) #[true, true, true, true, false, true, false, false, false, false] rfl rfl (any_of HT_.out (by kernel_rfl)) (fun _ _ _ h => h) (Or.inl ⟨by rfl, ?_⟩) ?_ ?_
         rotate_left
         ·intro w'
          go_simp
          with_reducible rfl
         rotate_left
         ·simp only [czP]
          rfl
         refine take_ (i := 4) (N := some 54) (v := ?_) (a' := ?_) #[true, true, true, true, true, true, false, false, false, false] rfl rfl (take_ofW HT_.out HW_.out (by kernel_rfl)) (fun _ _ _ h => h) (Or.inl ⟨by rfl, ?_⟩) hHeld ?_ ?_
         rotate_left
         ·rintro w' ⟨s0, s1, s2, s3⟩
          go_simp
          with_reducible rfl
         rotate_left
         ·simp only [czP]
          rfl
         refine take_ (i := 6) (N := some 56) (v := ?_) (a' := ?_) #[true, true, true, true, true, true, true, false, false, false] rfl rfl (take_ofW HT_.out HW_.out (by kernel_rfl)) (fun _ _ _ h => h) (Or.inl ⟨by rfl, ?_⟩) hHeld ?_ ?_
         rotate_left
         ·rintro w' ⟨s0, s1, s2, s3⟩
          go_simp
          with_reducible rfl
         rotate_left
         ·simp only [czP]
          rfl
         refine pure_ (i := 7) (N := some 57) (v := ?_) (a' := ?_) #[true, true, true, true, true, true, true, true, false, false] rfl rfl (any_of HT_.out (by kernel_rfl)) (fun _ _ _ h => h) (Or.inl ⟨by rfl, ?_⟩) ?_ ?_
         rotate_left
         ·intro w'
          go_simp
          with_reducible rfl
         rotate_left
         ·simp only [czP]
          rfl
         refine pure_ (i := 8) (N := some 58) (v := ?_) (a' := ?_) #[true, true, true, true, true, true, true, true, true, false] rfl rfl (any_of HT_.out (by kernel_rfl)) (fun _ _ _ h => h) (Or.inl ⟨by rfl, ?_⟩) ?_ ?_
         rotate_left
         ·intro w'
          go_simp
          with_reducible rfl
         rotate_left
         ·simp only [czP]
          rfl
         refine pure_ (i := 9) (N := some 49) (v := ?_) (a' := ?_) #[true, true, true, true, true, true, true, true, true, true] rfl rfl (any_of HT_.out (by kernel_rfl)) (fun _ _ _ h => h) (Or.inl ⟨by rfl, ?_⟩) ?_ ?_
         rotate_left
         ·intro w'
          go_simp
          with_reducible rfl
         rotate_left
         ·simp only [czP]
          rfl
         refine done_ (done_of HT_.out (by kernel_rfl)) ?_;have p288 : 0 ≤ (x7_1 : Int) := of_decide_eq_true Z11x2;have q288 : x7_1 < (l0.length : Int) := of_decide_eq_true Z11x2;obtain ⟨ad288, e288, hx288_0, hx288_1⟩ := at_T70 HR0.out x7_1 p288 q288;obtain rfl : ad282 = ad288 := (by injection e288);replace hx288_0 := czB HB.out hx288_0;replace hx288_1 := czB HB.out hx288_1;replace p288 := eq_true p288;replace q288 := eq_true q288
         try go_wp2_with (first | ((with_reducible refine gate_builtin (b := .append) (xs := #[.tmp 65, .tmp 70]) rfl ?_); at_builtin; refine Kd.R_append k70 (w0 := w) w.heap.size rfl (.tmp 65) (.tmp 70) 32 70 (.agg #[(.int .i64 0), (.int .i64 0)]) 16 rfl Try.underlying32 info70 rfl (by decide) (by omega) u5 x5_1 (⟨(rd_T70 l0 x7_1).f0, (rd_T70 l0 x7_1).f1⟩ : S70) [.int .i64 ((rd_T70 l0 x7_1).f0), .int .i64 ((rd_T70 l0 x7_1).f1)] (fun k_ => k_ ≠ gb275) (fun _ => False) rfl rfl ?aP (fun _ hk => hk.elim) ?aF ?aO ?aB ?aS ?aL ?_; (case aP => exact k70_mkM _ _ _ (⟨(rd_T70 l0 x7_1).f0, (rd_T70 l0 x7_1).f1⟩ : S70)); (case aB => exact Z11x0); (case aF => exact (fun k_ hk => Kd.freshB (g := gb275) (o := .cells #[.int .i64 x276000_1, .int .i64 x276001_1] 70 (0, 0)) Z11x1 k_ hk)); (case aO => exact Z11x4); (case aS => exact (below_size Z11x0)); (case aL => have := LMc14.out; omega); intro v290 w17 ho hb hg hat; rw [← Ny289.out] at ho; have n0_ := Aside0.mk (blk_grown (g := gb275) (o := .cells #[.int .i64 x276000_1, .int .i64 x276001_1] 70 (0, 0)) Z11x1 hg (Kd.R_away HO_5.out (fun _ hk => hk))); have n1_ := Aside0.mk (hb); have n2_ := Aside0.mk (ho); clear BK275; clear HB; clear HO_5; have BK275 := n0_; have HB := n1_; have HO291 := n2_; clear n0_ n1_ n2_; clear ho hb hg hat))
         go_roundg k1
         case measure => have := HK1.out; omega
         case rel => exact ⟨(y289), (true), (wrap64 (x7_1 + 1)), (x276000_1), (x276001_1), Z11x3, Z11x3, H', ⟨by have := HK1.out; omega⟩, ⟨by (with_reducible repeat (first | apply Kd.R_alloc | apply Kd.R_drewN | apply Kd.R_drew)); exact HO291.out⟩, ⟨Z11x1⟩, ⟨Z11x0⟩⟩
        ·rw [if_neg c14] at H
         exact absurd H (by simp)
       ·replace c13 := Bool.eq_false_iff.mpr c13
        subst c13
        have H1 : (if x5_1.length < 8796093022208 then ((some (x5_1 ++ [(⟨x276000_1, x276001_1⟩ : S70)] : List (S70))).bind fun y292 => (if y292.length < 8796093022208 then (spec_l5Put.l0 k1 l0 (y292 ++ [(⟨(rd_T70 l0 x7_1).f0, (rd_T70 l0 x7_1).f1⟩ : S70)]) true (wrap64 (x7_1 + 1)) x276000_1 x276001_1) else (none))) else (none)) = some r := by rw [if_neg (show ¬ (false = true) by decide)] at H; exact H
        clear H;have H := H1;clear H1
        by_cases c18 : x5_1.length < 8796093022208
        ·rw [if_pos c18] at H
         have LMc18 := Aside0.mk c18;clear c18;obtain ⟨y292, hy292⟩ : ∃ y_ : List (S70), y_ = (x5_1 ++ [(⟨x276000_1, x276001_1⟩ : S70)]) := ⟨_, rfl⟩
         replace H : (if y292.length < 8796093022208 then (spec_l5Put.l0 k1 l0 (y292 ++ [(⟨(rd_T70 l0 x7_1).f0, (rd_T70 l0 x7_1).f1⟩ : S70)]) true (wrap64 (x7_1 + 1)) x276000_1 x276001_1) else (none)) = some r := by first | (rw [hy292]; with_reducible exact H) | (have H2_ := (Option.bind_some _ _).symm.trans H; rw [hy292]; with_reducible exact H2_) | (have H2_ := (Option.bind_some _ _).symm.trans H; with_reducible exact H2_) | with_reducible exact H | (rw [hy292]; exact H) | exact H
         have Ny292 := Aside0.mk hy292;clear hy292
         by_cases c19 : y292.length < 8796093022208
         ·rw [if_pos c19] at H
          have LMc19 := Aside0.mk c19;clear c19;obtain ⟨y296, hy296⟩ : ∃ y_ : List (S70), y_ = (y292 ++ [(⟨(rd_T70 l0 x7_1).f0, (rd_T70 l0 x7_1).f1⟩ : S70)]) := ⟨_, rfl⟩
          replace H : (spec_l5Put.l0 k1 l0 y296 true (wrap64 (x7_1 + 1)) x276000_1 x276001_1) = some r := by first | (rw [hy296]; with_reducible exact H) | (have H2_ := (Option.bind_some _ _).symm.trans H; rw [hy296]; with_reducible exact H2_) | (have H2_ := (Option.bind_some _ _).symm.trans H; with_reducible exact H2_) | with_reducible exact H | (rw [hy296]; exact H) | exact H
          have Ny296 := Aside0.mk hy296;clear hy296;have H' := Aside0.mk H;clear H
          try go_wp2
          have n0_ := Aside0.mk (Kd.R_drew HO_5.out);have n1_ := Aside0.mk (blk_drew BK275.out);have n2_ := Aside0.mk (below_drew1 HB.out);clear HO_5;clear BK275;clear HB;have HO_5 := n0_;have BK275 := n1_;have HB := n2_;clear n0_ n1_ n2_;have p282 : 0 ≤ (x7_1 : Int) := of_decide_eq_true Z11x2;have q282 : x7_1 < (l0.length : Int) := of_decide_eq_true Z11x2;obtain ⟨ad282, e282, hx282_0, hx282_1⟩ := at_T70 HR0.out x7_1 p282 q282;have hw282_1 := hx282_1;have hw282_0 := hx282_0
          cases e282
          replace hx282_0 := czB HB.out hx282_0;replace hx282_1 := czB HB.out hx282_1;replace p282 := eq_true p282;replace q282 := eq_true q282;refine start_ (n := 10) (S := fun w' => w'.cell? ⟨gb275, 0, none⟩ = some (.int .i64 x276000_1) ∧ w'.cell? ⟨gb275, 1, none⟩ = some (.int .i64 x276001_1) ∧ w'.cell? (ad282.add ((x7_1).toNat * 2)) = some (.int .i64 ((rd_T70 l0 x7_1).f0)) ∧ w'.cell? ⟨(ad282.add ((x7_1).toNat * 2)).block, (ad282.add ((x7_1).toNat * 2)).off + 1, none⟩ = some (.int .i64 ((rd_T70 l0 x7_1).f1))) (ds := []) #[false, false, false, false, false, false, false, false, false, false] (by kernel_rfl) rfl rfl ⟨(blk_cell BK275.out 0).trans rfl, (blk_cell BK275.out 1).trans rfl, ((HB.out.cell (World.block_lt_of_cell? w _ hw282_0)).trans hw282_0), ((HB.out.cell (World.block_lt_of_cell? w _ hw282_1)).trans hw282_1)⟩ (fun hHeld => ?_); refine with_tabW spec_l5Put.tab7 spec_l5Put.bits7 (fun HT_ HW_ => ?_);generalize wr.drew = w20 at HO_5 BK275 HB hx282_0 hx282_1 hHeld ⊢;refine pure_ (i := 0) (N := some 33) (v := ?_) (a' := ?_) #[true, false, false, false, false, false, false, false, false, false] rfl rfl (any_of HT_.out (by kernel_rfl)) (fun _ _ _ h => h) (Or.inl ⟨by rfl, ?_⟩) ?_ ?_
          rotate_left
          ·intro w'
           go_simp
           with_reducible rfl
          rotate_left
          ·simp only [czP]
           rfl
          refine pure_ (i := 1) (N := some 34) (v := ?_) (a' := ?_) #[true, true, false, false, false, false, false, false, false, false] rfl rfl (any_of HT_.out (by kernel_rfl)) (fun _ _ _ h => h) (Or.inl ⟨by rfl, ?_⟩) ?_ ?_
          rotate_left
          ·intro w'
           go_simp
           with_reducible rfl
          rotate_left
          ·simp only [czP]
           rfl
          refine pure_ (i := 2) (N := some 35) (v := ?_) (a' := ?_) #[true, true, true, false, false, false, false, false, false, false] rfl rfl (any_of HT_.out (by kernel_rfl)) (fun _ _ _ h => h) (Or.inl ⟨by rfl, ?_⟩) ?_ ?_
          rotate_left
          ·intro w'
           go_simp
           with_reducible rfl
          rotate_left
          ·simp only [czP]
           rfl
          refine pure_ (i := 3) (N := some 36) (v := ?_) (a' := ?_) #[true, true, true, true, false, false, false, false, false, false] rfl rfl (any_of HT_.out (by kernel_rfl)) (fun _ _ _ h => h) (Or.inl ⟨by rfl, ?_⟩) ?_ ?_
          rotate_left
          ·intro w'
           go_simp
           with_reducible rfl
          rotate_left
          ·simp only [czP]
           rfl
          refine pure_ (i := 6) (N := some 39) (v := ?_) (a' := ?_) #[true, true, true, true, false, false, true, false, false, false] rfl rfl (any_of HT_.out (by kernel_rfl)) (fun _ _ _ h => h) (Or.inl ⟨by rfl, ?_⟩) ?_ ?_
          rotate_left
          ·intro w'
           go_simp
           with_reducible rfl
          rotate_left
          ·simp only [czP]
           rfl
          refine take_ (i := 4) (N := some 37) (v := ?_) (a' := ?_) #[true, true, true, true, true, false, true, false, false, false] rfl rfl (take_ofW HT_.out HW_.out (by kernel_rfl)) (fun _ _ _ h => h) (Or.inl ⟨by rfl, ?_⟩) hHeld ?_ ?_
          rotate_left
          ·rintro w' ⟨s0, s1, s2, s3⟩
           go_simp
           with_reducible rfl
          rotate_left
          ·simp only [czP]
           rfl
          refine pure_ (i := 5) (N := some 38) (v := ?_) (a' := ?_) #[true, true, true, true, true, true, true, false, false, false] rfl rfl (any_of HT_.out (by kernel_rfl)) (fun _ _ _ h => h) (Or.inl ⟨by rfl, ?_⟩) ?_ ?_
          rotate_left
          ·intro w'
           go_simp
           with_reducible rfl
          rotate_left
          ·simp only [czP]
           rfl
          refine take_ (i := 7) (N := some 40) (v := ?_) (a' := ?_) #[true, true, true, true, true, true, true, true, false, false] rfl rfl (take_ofW HT_.out HW_.out (by kernel_rfl)) (fun _ _ _ h => h) (Or.inl ⟨by rfl, ?_⟩) hHeld ?_ ?_
          rotate_left
          ·rintro w' ⟨s0, s1, s2, s3⟩
           go_simp
           with_reducible rfl
          rotate_left
          ·simp only [czP]
           rfl
          refine pure_ (i := 8) (N := some 41) (v := ?_) (a' := ?_) #[true, true, true, true, true, true, true, true, true, false] rfl rfl (any_of HT_.out (by kernel_rfl)) (fun _ _ _ h => h) (Or.inl ⟨by rfl, ?_⟩) ?_ ?_
          rotate_left
          ·intro w'
           go_simp
           with_reducible rfl
          rotate_left
          ·simp only [czP]
           rfl
          refine pure_ (i := 9) (N := some 32) (v := ?_) (a' := ?_) #[true, true, true, true, true, true, true, true, true, true] rfl rfl (any_of HT_.out (by kernel_rfl)) (fun _ _ _ h => h) (Or.inl ⟨by rfl, ?_⟩) ?_ ?_
          rotate_left
          ·intro w'
           go_simp
           with_reducible rfl
          rotate_left
          ·simp only [czP]
           rfl
          refine done_ (done_of HT_.out (by kernel_rfl)) ?_
          try go_wp2
          have n0_ := Aside0.mk (Kd.R_drew HO_5.out);have n1_ := Aside0.mk (blk_drew BK275.out);have n2_ := Aside0.mk (below_drew1 HB.out);clear HO_5;clear BK275;clear HB;have HO_5 := n0_;have BK275 := n1_;have HB := n2_;clear n0_ n1_ n2_;have p287 : 0 ≤ (x7_1 : Int) := of_decide_eq_true Z11x2;have q287 : x7_1 < (l0.length : Int) := of_decide_eq_true Z11x2;obtain ⟨ad287, e287, hx287_0, hx287_1⟩ := at_T70 HR0.out x7_1 p287 q287;have hw287_1 := hx287_1;have hw287_0 := hx287_0;obtain rfl : ad282 = ad287 := (by injection e287);replace hx287_0 := czB HB.out hx287_0;replace hx287_1 := czB HB.out hx287_1;replace p287 := eq_true p287;replace q287 := eq_true q287;refine start_ (n := 10) (S := fun w' => w'.cell? ⟨gb275, 0, none⟩ = some (.int .i64 x276000_1) ∧ w'.cell? ⟨gb275, 1, none⟩ = some (.int .i64 x276001_1) ∧ w'.cell? (ad282.add ((x7_1).toNat * 2)) = some (.int .i64 ((rd_T70 l0 x7_1).f0)) ∧ w'.cell? ⟨(ad282.add ((x7_1).toNat * 2)).block, (ad282.add ((x7_1).toNat * 2)).off + 1, none⟩ = some (.int .i64 ((rd_T70 l0 x7_1).f1))) (ds := []) #[false, false, false, false, false, false, false, false, false, false] (by kernel_rfl) rfl rfl ⟨(blk_cell BK275.out 0).trans rfl, (blk_cell BK275.out 1).trans rfl, ((HB.out.cell (World.block_lt_of_cell? w _ hw287_0)).trans hw287_0), ((HB.out.cell (World.block_lt_of_cell? w _ hw287_1)).trans hw287_1)⟩ (fun hHeld => ?_); refine with_tabW spec_l5Put.tab9 spec_l5Put.bits9 (fun HT_ HW_ => ?_);generalize w20.drew = w21 at HO_5 BK275 HB hx287_0 hx287_1 hHeld ⊢;refine pure_ (i := 0) (N := some 50) (v := ?_) (a' := ?_) #[true, false, false, false, false, false, false, false, false, false] rfl rfl (any_of HT_.out (by kernel_rfl)) (fun _ _ _ h => h) (Or.inl ⟨by rfl, ?_⟩) ?_ ?_
          rotate_left
          ·intro w'
           go_simp
           with_reducible rfl
          rotate_left
          ·simp only [czP]
           rfl
          refine pure_ (i := 1) (N := some 51) (v := ?_) (a' := ?_) #[true, true, false, false, false, false, false, false, false, false] rfl rfl (any_of HT_.out (by kernel_rfl)) (fun _ _ _ h => h) (Or.inl ⟨by rfl, ?_⟩) ?_ ?_
          rotate_left
          ·intro w'
           go_simp
           with_reducible rfl
          rotate_left
          ·simp only [czP]
           rfl
          refine pure_ (i := 2) (N := some 52) (v := ?_) (a' := ?_) #[true, true, true, false, false, false, false, false, false, false] rfl rfl (any_of HT_.out (by kernel_rfl)) (fun _ _ _ h => h) (Or.inl ⟨by rfl, ?_⟩) ?_ ?_
          rotate_left
          ·intro w'
           go_simp
           with_reducible rfl
          rotate_left
          ·simp only [czP]
           rfl
          refine pure_ (i := 3) (N := some 53) (v := ?_) (a' := ?_) #[true, true, true, true, false, false, false, false, false, false] rfl rfl (any_of HT_.out (by kernel_rfl)) (fun _ _ _ h => h) (Or.inl ⟨by rfl, ?_⟩) ?_ ?_
          rotate_left
          ·intro w'
           go_simp
           with_reducible rfl
          rotate_left
          ·simp only [czP]
           rfl
          refine pure_ (i := 5) (N := some 55) (v := ?_) (a' := ?_) #[true, true, true, true, false, true, false, false, false, false] rfl rfl (any_of HT_.out (by kernel_rfl)) (fun _ _ _ h => h) (Or.inl ⟨by rfl, ?_⟩) ?_ ?_
          rotate_left
          ·intro w'
           go_simp
           with_reducible rfl
          rotate_left
          ·simp only [czP]
           rfl
          refine take_ (i := 4) (N := some 54) (v := ?_) (a' := ?_) #[true, true, true, true, true, true, false, false, false, false] rfl rfl (take_ofW HT_.out HW_.out (by kernel_rfl)) (fun _ _ _ h => h) (Or.inl ⟨by rfl, ?_⟩) hHeld ?_ ?_
          rotate_left
          ·rintro w' ⟨s0, s1, s2, s3⟩
           go_simp
           with_reducible rfl
          rotate_left
          ·simp only [czP]
           rfl
          refine take_ (i := 6) (N := some 56) (v := ?_) (a' := ?_) #[true, true, true, true, true, true, true, false, false, false] rfl rfl (take_ofW HT_.out HW_.out (by kernel_rfl)) (fun _ _ _ h => h) (Or.inl ⟨by rfl, ?_⟩) hHeld ?_ ?_
          rotate_left
          ·rintro w' ⟨s0, s1, s2, s3⟩
           go_simp
           with_reducible rfl
          rotate_left
          ·simp only [czP]
           rfl
          refine pure_ (i := 7) (N := some 57) (v := ?_) (a' := ?_) #[true, true, true, true, true, true, true, true, false, false] rfl rfl (any_of HT_.out (by kernel_rfl)) (fun _ _ _ h => h) (Or.inl ⟨by rfl, ?_⟩) ?_ ?_
          rotate_left
          ·intro w'
           go_simp
           with_reducible rfl
          rotate_left
          ·simp only [czP]
           rfl
          refine pure_ (i := 8) (N := some 58) (v := ?_) (a' := ?_) #[true, true, true, true, true, true, true, true, true, false] rfl rfl (any_of HT_.out (by kernel_rfl)) (fun _ _ _ h => h) (Or.inl ⟨by rfl, ?_⟩) ?_ ?_
          rotate_left
          ·intro w'
           go_simp
           with_reducible rfl
          rotate_left
          ·simp only [czP]
           rfl
          refine pure_ (i := 9) (N := some 49) (v := ?_) (a' := ?_) #[true, true, true, true, true, true, true, true, true, true] rfl rfl (any_of HT_.out (by kernel_rfl)) (fun _ _ _ h => h) (Or.inl ⟨by rfl, ?_⟩) ?_ ?_
          rotate_left
          ·intro w'
           go_simp
           with_reducible rfl
          rotate_left
          ·simp only [czP]
           rfl
          refine done_ (done_of HT_.out (by kernel_rfl)) ?_;have hcz22_0 : w21.cell? ⟨gb275, 0, none⟩ = some (.int .i64 x276000_1) := (blk_cell BK275.out 0).trans rfl;have hcz22_1 : w21.cell? ⟨gb275, 1, none⟩ = some (.int .i64 x276001_1) := (blk_cell BK275.out 1).trans rfl;have hfz22_0 := blk_frozen BK275.out 0;have hfz22_1 := blk_frozen BK275.out 1
          try go_wp2_with (first | ((with_reducible refine gate_builtin (b := .append) (xs := #[.tmp 61, .tmp 63]) rfl ?_); at_builtin; refine Kd.R_append k70 (w0 := w) w.heap.size rfl (.tmp 61) (.tmp 63) 32 70 (.agg #[(.int .i64 0), (.int .i64 0)]) 16 rfl Try.underlying32 info70 rfl (by decide) (by omega) u5 x5_1 (⟨x276000_1, x276001_1⟩ : S70) [.int .i64 x276000_1, .int .i64 x276001_1] (fun k_ => k_ ≠ gb275) (fun _ => False) rfl rfl ?aP (fun _ hk => hk.elim) ?aF ?aO ?aB ?aS ?aL ?_; (case aP => exact k70_mkM _ _ _ (⟨x276000_1, x276001_1⟩ : S70)); (case aB => exact Z11x0); (case aF => exact (fun k_ hk => Kd.freshB (g := gb275) (o := .cells #[.int .i64 x276000_1, .int .i64 x276001_1] 70 (0, 0)) Z11x1 k_ hk)); (case aO => exact Z11x4); (case aS => exact (below_size Z11x0)); (case aL => have := LMc18.out; omega); intro v293 w23 ho hb hg hat; rw [← Ny292.out] at ho; have n0_ := Aside0.mk (blk_grown (g := gb275) (o := .cells #[.int .i64 x276000_1, .int .i64 x276001_1] 70 (0, 0)) Z11x1 hg (Kd.R_away HO_5.out (fun _ hk => hk))); have n1_ := Aside0.mk (hb); have n2_ := Aside0.mk (ho); clear BK275; clear HB; clear HO_5; have BK275 := n0_; have HB := n1_; have HO294 := n2_; clear n0_ n1_ n2_; clear ho hb hg hat; have p295 : 0 ≤ (x7_1 : Int) := of_decide_eq_true Z11x2; have q295 : x7_1 < (l0.length : Int) := of_decide_eq_true Z11x2; obtain ⟨ad295, e295, hx295_0, hx295_1⟩ := at_T70 HR0.out x7_1 p295 q295; obtain rfl : ad282 = ad295 := (by injection e295); replace hx295_0 := czB HB.out hx295_0; replace hx295_1 := czB HB.out hx295_1; replace p295 := eq_true p295; replace q295 := eq_true q295) | ((with_reducible refine gate_builtin (b := .append) (xs := #[.tmp 65, .tmp 70]) rfl ?_); at_builtin; refine Kd.R_append k70 (w0 := w) w.heap.size rfl (.tmp 65) (.tmp 70) 32 70 (.agg #[(.int .i64 0), (.int .i64 0)]) 16 rfl Try.underlying32 info70 rfl (by decide) (by omega) v293 y292 (⟨(rd_T70 l0 x7_1).f0, (rd_T70 l0 x7_1).f1⟩ : S70) [.int .i64 ((rd_T70 l0 x7_1).f0), .int .i64 ((rd_T70 l0 x7_1).f1)] (fun k_ => k_ ≠ gb275) (fun _ => False) rfl rfl ?aP (fun _ hk => hk.elim) ?aF ?aO ?aB ?aS ?aL ?_; (case aP => exact k70_mkM _ _ _ (⟨(rd_T70 l0 x7_1).f0, (rd_T70 l0 x7_1).f1⟩ : S70)); (case aB => exact Z11x0); (case aF => exact (fun k_ hk => Kd.freshB (g := gb275) (o := .cells #[.int .i64 x276000_1, .int .i64 x276001_1] 70 (0, 0)) Z11x1 k_ hk)); (case aO => exact (by (with_reducible repeat (first | apply Kd.R_alloc | apply Kd.R_drewN | apply Kd.R_drew)); exact HO294.out)); (case aS => exact (below_size Z11x0)); (case aL => have := LMc19.out; omega); intro v297 w24 ho hb hg hat; rw [← Ny296.out] at ho; have n0_ := Aside0.mk (blk_grown (g := gb275) (o := .cells #[.int .i64 x276000_1, .int .i64 x276001_1] 70 (0, 0)) Z11x1 hg (Kd.R_away HO294.out (fun _ hk => hk))); have n1_ := Aside0.mk (hb); have n2_ := Aside0.mk (ho); clear BK275; clear HB; clear HO294; have BK275 := n0_; have HB := n1_; have HO298 := n2_; clear n0_ n1_ n2_; clear ho hb hg hat))
          go_roundg k1
          case measure => have := HK1.out; omega
          case rel => exact ⟨(y296), (true), (wrap64 (x7_1 + 1)), (x276000_1), (x276001_1), Z11x3, Z11x3, H', ⟨by have := HK1.out; omega⟩, ⟨by (with_reducible repeat (first | apply Kd.R_alloc | apply Kd.R_drewN | apply Kd.R_drew)); exact HO298.out⟩, ⟨Z11x1⟩, ⟨Z11x0⟩⟩
         ·rw [if_neg c19] at H
          exact absurd H (by simp)
        ·rw [if_neg c18] at H
         exact absurd H (by simp)
      ·rw [if_neg c12] at H
       have c12b0 : decide ((wrap64 (x276001_1 + 1)) < ((rd_T70 l0 x7_1).f0)) = false := decide_eq_false c12
       (try (have c12b1 : decide ((IntKind.i64.wrap (x276001_1 + 1)) < ((rd_T70 l0 x7_1).f0)) = false := by simp only [i64_w]; first | exact decide_eq_false c12 | simpa using c12))
       clear c12;replace H := Option.bind_eq_some_iff.mp H;obtain ⟨t300, A250, H⟩ := H;replace H : ((spec_l1Max.f x276001_1 ((rd_T70 l0 x7_1).f1)).bind fun t302 => (spec_l5Put.l0 k1 l0 x5_1 x6_1 (wrap64 (x7_1 + 1)) t300 t302)) = some r := H;have A25 := Aside0.mk A250;clear A250;replace H := Option.bind_eq_some_iff.mp H;obtain ⟨t302, A260, H⟩ := H;replace H : (spec_l5Put.l0 k1 l0 x5_1 x6_1 (wrap64 (x7_1 + 1)) t300 t302) = some r := H;have A26 := Aside0.mk A260;clear A260;have H' := Aside0.mk H;clear H
       try go_wp2
       have n0_ := Aside0.mk (Kd.R_drew HO_5.out);have n1_ := Aside0.mk (blk_drew BK275.out);have n2_ := Aside0.mk (below_drew1 HB.out);clear HO_5;clear BK275;clear HB;have HO_5 := n0_;have BK275 := n1_;have HB := n2_;clear n0_ n1_ n2_;have p282 : 0 ≤ (x7_1 : Int) := of_decide_eq_true Z11x2;have q282 : x7_1 < (l0.length : Int) := of_decide_eq_true Z11x2;obtain ⟨ad282, e282, hx282_0, hx282_1⟩ := at_T70 HR0.out x7_1 p282 q282;have hw282_1 := hx282_1;have hw282_0 := hx282_0
       cases e282
       replace hx282_0 := czB HB.out hx282_0;replace hx282_1 := czB HB.out hx282_1;replace p282 := eq_true p282;replace q282 := eq_true q282;refine start_ (n := 10) (S := fun w' => w'.cell? ⟨gb275, 0, none⟩ = some (.int .i64 x276000_1) ∧ w'.cell? ⟨gb275, 1, none⟩ = some (.int .i64 x276001_1) ∧ w'.cell? (ad282.add ((x7_1).toNat * 2)) = some (.int .i64 ((rd_T70 l0 x7_1).f0)) ∧ w'.cell? ⟨(ad282.add ((x7_1).toNat * 2)).block, (ad282.add ((x7_1).toNat * 2)).off + 1, none⟩ = some (.int .i64 ((rd_T70 l0 x7_1).f1))) (ds := []) #[false, false, false, false, false, false, false, false, false, false] (by kernel_rfl) rfl rfl ⟨(blk_cell BK275.out 0).trans rfl, (blk_cell BK275.out 1).trans rfl, ((HB.out.cell (World.block_lt_of_cell? w _ hw282_0)).trans hw282_0), ((HB.out.cell (World.block_lt_of_cell? w _ hw282_1)).trans hw282_1)⟩ (fun hHeld => ?_); refine with_tabW spec_l5Put.tab7 spec_l5Put.bits7 (fun HT_ HW_ => ?_);generalize wr.drew = w27 at HO_5 BK275 HB hx282_0 hx282_1 hHeld ⊢;refine pure_ (i := 0) (N := some 33) (v := ?_) (a' := ?_) #[true, false, false, false, false, false, false, false, false, false] rfl rfl (any_of HT_.out (by kernel_rfl)) (fun _ _ _ h => h) (Or.inl ⟨by rfl, ?_⟩) ?_ ?_
       rotate_left
       ·intro w'
        go_simp
        with_reducible rfl
       rotate_left
       ·simp only [czP]
        rfl
       refine pure_ (i := 1) (N := some 34) (v := ?_) (a' := ?_) #[true, true, false, false, false, false, false, false, false, false] rfl rfl (any_of HT_.out (by kernel_rfl)) (fun _ _ _ h => h) (Or.inl ⟨by rfl, ?_⟩) ?_ ?_
       rotate_left
       ·intro w'
        go_simp
        with_reducible rfl
       rotate_left
       ·simp only [czP]
        rfl
       refine pure_ (i := 2) (N := some 35) (v := ?_) (a' := ?_) #[true, true, true, false, false, false, false, false, false, false] rfl rfl (any_of HT_.out (by kernel_rfl)) (fun _ _ _ h => h) (Or.inl ⟨by rfl, ?_⟩) ?_ ?_
       rotate_left
       ·intro w'
        go_simp
        with_reducible rfl
       rotate_left
       ·simp only [czP]
        rfl
       refine pure_ (i := 3) (N := some 36) (v := ?_) (a' := ?_) #[true, true, true, true, false, false, false, false, false, false] rfl rfl (any_of HT_.out (by kernel_rfl)) (fun _ _ _ h => h) (Or.inl ⟨by rfl, ?_⟩) ?_ ?_
       rotate_left
       ·intro w'
        go_simp
        with_reducible rfl
       rotate_left
       ·simp only [czP]
        rfl
       refine pure_ (i := 6) (N := some 39) (v := ?_) (a' := ?_) #[true, true, true, true, false, false, true, false, false, false] rfl rfl (any_of HT_.out (by kernel_rfl)) (fun _ _ _ h => h) (Or.inl ⟨by rfl, ?_⟩) ?_ ?_
       rotate_left
       ·intro w'
        go_simp
        with_reducible rfl
       rotate_left
       ·simp only [czP]
        rfl
       refine take_ (i := 4) (N := some 37) (v := ?_) (a' := ?_) #[true, true, true, true, true, false, true, false, false, false] rfl rfl (take_ofW HT_.out HW_.out (by kernel_rfl)) (fun _ _ _ h => h) (Or.inl ⟨by rfl, ?_⟩) hHeld ?_ ?_
       rotate_left
       ·rintro w' ⟨s0, s1, s2, s3⟩
        go_simp
        with_reducible rfl
       rotate_left
       ·simp only [czP]
        rfl
       refine pure_ (i := 5) (N := some 38) (v := ?_) (a' := ?_) #[true, true, true, true, true, true, true, false, false, false] rfl rfl (any_of HT_.out (by kernel_rfl)) (fun _ _ _ h => h) (Or.inl ⟨by rfl, ?_⟩) ?_ ?_
       rotate_left
       ·intro w'
        go_simp
        with_reducible rfl
       rotate_left
       ·simp only [czP]
        rfl
       refine take_ (i := 7) (N := some 40) (v := ?_) (a' := ?_) #[true, true, true, true, true, true, true, true, false, false] rfl rfl (take_ofW HT_.out HW_.out (by kernel_rfl)) (fun _ _ _ h => h) (Or.inl ⟨by rfl, ?_⟩) hHeld ?_ ?_
       rotate_left
       ·rintro w' ⟨s0, s1, s2, s3⟩
        go_simp
        with_reducible rfl
       rotate_left
       ·simp only [czP]
        rfl
       refine pure_ (i := 8) (N := some 41) (v := ?_) (a' := ?_) #[true, true, true, true, true, true, true, true, true, false] rfl rfl (any_of HT_.out (by kernel_rfl)) (fun _ _ _ h => h) (Or.inl ⟨by rfl, ?_⟩) ?_ ?_
       rotate_left
       ·intro w'
        go_simp
        with_reducible rfl
       rotate_left
       ·simp only [czP]
        rfl
       refine pure_ (i := 9) (N := some 32) (v := ?_) (a' := ?_) #[true, true, true, true, true, true, true, true, true, true] rfl rfl (any_of HT_.out (by kernel_rfl)) (fun _ _ _ h => h) (Or.inl ⟨by rfl, ?_⟩) ?_ ?_
       rotate_left
       ·intro w'
        go_simp
        with_reducible rfl
       rotate_left
       ·simp only [czP]
        rfl
       refine done_ (done_of HT_.out (by kernel_rfl)) ?_
       try go_wp2
       have n0_ := Aside0.mk (Kd.R_drew HO_5.out);have n1_ := Aside0.mk (blk_drew BK275.out);have n2_ := Aside0.mk (below_drew1 HB.out);clear HO_5;clear BK275;clear HB;have HO_5 := n0_;have BK275 := n1_;have HB := n2_;clear n0_ n1_ n2_;have p287 : 0 ≤ (x7_1 : Int) := of_decide_eq_true Z11x2;have q287 : x7_1 < (l0.length : Int) := of_decide_eq_true Z11x2;obtain ⟨ad287, e287, hx287_0, hx287_1⟩ := at_T70 HR0.out x7_1 p287 q287;have hw287_1 := hx287_1;have hw287_0 := hx287_0;obtain rfl : ad282 = ad287 := (by injection e287);replace hx287_0 := czB HB.out hx287_0;replace hx287_1 := czB HB.out hx287_1;replace p287 := eq_true p287;replace q287 := eq_true q287;refine start_ (n := 10) (S := fun w' => w'.cell? ⟨gb275, 0, none⟩ = some (.int .i64 x276000_1) ∧ w'.cell? ⟨gb275, 1, none⟩ = some (.int .i64 x276001_1) ∧ w'.cell? (ad282.add ((x7_1).toNat * 2)) = some (.int .i64 ((rd_T70 l0 x7_1).f0)) ∧ w'.cell? ⟨(ad282.add ((x7_1).toNat * 2)).block, (ad282.add ((x7_1).toNat * 2)).off + 1, none⟩ = some (.int .i64 ((rd_T70 l0 x7_1).f1))) (ds := []) #[false, false, false, false, false, false, false, false, false, false] (by kernel_rfl) rfl rfl ⟨(blk_cell BK275.out 0).trans rfl, (blk_cell BK275.out 1).trans rfl, ((HB.out.cell (World.block_lt_of_cell? w _ hw287_0)).trans hw287_0), ((HB.out.cell (World.block_lt_of_cell? w _ hw287_1)).trans hw287_1)⟩ (fun hHeld => ?_); refine with_tabW spec_l5Put.tab9 spec_l5Put.bits9 (fun HT_ HW_ => ?_);generalize w27.drew = w28 at HO_5 BK275 HB hx287_0 hx287_1 hHeld ⊢;refine pure_ (i := 0) (N := some 50) (v := ?_) (a' := ?_) #[true, false, false, false, false, false, false, false, false, false] rfl rfl (any_of HT_.out (by kernel_rfl)) (fun _ _ _ h => h) (Or.inl ⟨by rfl, ?_⟩) ?_ ?_
       rotate_left
       ·intro w'
        go_simp
        with_reducible rfl
       rotate_left
       ·simp only [czP]
        rfl
       refine pure_ (i := 1) (N := some 51) (v := ?_) (a' := ?_) #[true, true, false, false, false, false, false, false, false, false] rfl rfl (any_of HT_.out (by kernel_rfl)) (fun _ _ _ h => h) (Or.inl ⟨by rfl, ?_⟩) ?_ ?_
       rotate_left
       ·intro w'
        go_simp
        with_reducible rfl
       rotate_left
       ·simp only [czP]
        rfl
       refine pure_ (i := 2) (N := some 52) (v := ?_) (a' := ?_) #[true, true, true, false, false, false, false, false, false, false] rfl rfl (any_of HT_.out (by kernel_rfl)) (fun _ _ _ h => h) (Or.inl ⟨by rfl, ?_⟩) ?_ ?_
       rotate_left
       ·intro w'
        go_simp
        with_reducible rfl
       rotate_left
       ·simp only [czP]
        rfl
       refine pure_ (i := 3) (N := some 53) (v := ?_) (a' := ?_) #[true, true, true, true, false, false, false, false, false, false] rfl rfl (any_of HT_.out (by kernel_rfl)) (fun _ _ _ h => h) (Or.inl ⟨by rfl, ?_⟩) ?_ ?_
       rotate_left
       ·intro w'
        go_simp
        with_reducible rfl
       rotate_left
       ·simp only [czP]
        rfl
       refine pure_ (i := 5) (N := some 55) (v := ?_) (a' := ?_) #[true, true, true, true, false, true, false, false, false, false] rfl rfl (any_of HT_.out (by kernel_rfl)) (fun _ _ _ h => h) (Or.inl ⟨by rfl, ?_⟩) ?_ ?_
       rotate_left
       ·intro w'
        go_simp
        with_reducible rfl
       rotate_left
       ·simp only [czP]
        rfl
       refine take_ (i := 4) (N := some 54) (v := ?_) (a' := ?_) #[true, true, true, true, true, true, false, false, false, false] rfl rfl (take_ofW HT_.out HW_.out (by kernel_rfl)) (fun _ _ _ h => h) (Or.inl ⟨by rfl, ?_⟩) hHeld ?_ ?_
       rotate_left
       ·rintro w' ⟨s0, s1, s2, s3⟩
        go_simp
        with_reducible rfl
       rotate_left
       ·simp only [czP]
        rfl
       refine take_ (i := 6) (N := some 56) (v := ?_) (a' := ?_) #[true, true, true, true, true, true, true, false, false, false] rfl rfl (take_ofW HT_.out HW_.out (by kernel_rfl)) (fun _ _ _ h => h) (Or.inl ⟨by rfl, ?_⟩) hHeld ?_ ?_
       rotate_left
       ·rintro w' ⟨s0, s1, s2, s3⟩
        go_simp
        with_reducible rfl
       rotate_left
       ·simp only [czP]
        rfl
       refine pure_ (i := 7) (N := some 57) (v := ?_) (a' := ?_) #[true, true, true, true, true, true, true, true, false, false] rfl rfl (any_of HT_.out (by kernel_rfl)) (fun _ _ _ h => h) (Or.inl ⟨by rfl, ?_⟩) ?_ ?_
       rotate_left
       ·intro w'
        go_simp
        with_reducible rfl
       rotate_left
       ·simp only [czP]
        rfl
       refine pure_ (i := 8) (N := some 58) (v := ?_) (a' := ?_) #[true, true, true, true, true, true, true, true, true, false] rfl rfl (any_of HT_.out (by kernel_rfl)) (fun _ _ _ h => h) (Or.inl ⟨by rfl, ?_⟩) ?_ ?_
       rotate_left
       ·intro w'
        go_simp
        with_reducible rfl
       rotate_left
       ·simp only [czP]
        rfl
       refine pure_ (i := 9) (N := some 49) (v := ?_) (a' := ?_) #[true, true, true, true, true, true, true, true, true, true] rfl rfl (any_of HT_.out (by kernel_rfl)) (fun _ _ _ h => h) (Or.inl ⟨by rfl, ?_⟩) ?_ ?_
       rotate_left
       ·intro w'
        go_simp
        with_reducible rfl
       rotate_left
       ·simp only [czP]
        rfl
       refine done_ (done_of HT_.out (by kernel_rfl)) ?_
       try go_wp2
       have n0_ := Aside0.mk (Kd.R_drew HO_5.out);have n1_ := Aside0.mk (blk_drew BK275.out);have n2_ := Aside0.mk (below_drew1 HB.out);clear HO_5;clear BK275;clear HB;have HO_5 := n0_;have BK275 := n1_;have HB := n2_;clear n0_ n1_ n2_;have p299 : 0 ≤ (x7_1 : Int) := of_decide_eq_true Z11x2;have q299 : x7_1 < (l0.length : Int) := of_decide_eq_true Z11x2;obtain ⟨ad299, e299, hx299_0, hx299_1⟩ := at_T70 HR0.out x7_1 p299 q299;have hw299_1 := hx299_1;have hw299_0 := hx299_0;obtain rfl : ad282 = ad299 := (by injection e299);replace hx299_0 := czB HB.out hx299_0;replace hx299_1 := czB HB.out hx299_1;replace p299 := eq_true p299;replace q299 := eq_true q299;have p301 : 0 ≤ (x7_1 : Int) := of_decide_eq_true Z11x2;have q301 : x7_1 < (l0.length : Int) := of_decide_eq_true Z11x2;obtain ⟨ad301, e301, hx301_0, hx301_1⟩ := at_T70 HR0.out x7_1 p301 q301;have hw301_1 := hx301_1;have hw301_0 := hx301_0;obtain rfl : ad282 = ad301 := (by injection e301);replace hx301_0 := czB HB.out hx301_0;replace hx301_1 := czB HB.out hx301_1;replace p301 := eq_true p301;replace q301 := eq_true q301;refine start_ (n := 18) (S := fun w' => w'.cell? ⟨gb275, 0, none⟩ = some (.int .i64 x276000_1) ∧ w'.cell? ⟨gb275, 1, none⟩ = some (.int .i64 x276001_1) ∧ w'.cell? (ad282.add ((x7_1).toNat * 2)) = some (.int .i64 ((rd_T70 l0 x7_1).f0)) ∧ w'.cell? ⟨(ad282.add ((x7_1).toNat * 2)).block, (ad282.add ((x7_1).toNat * 2)).off + 1, none⟩ = some (.int .i64 ((rd_T70 l0 x7_1).f1)) ∧ w'.cell? (ad282.add ((x7_1).toNat * 2)) = some (.int .i64 ((rd_T70 l0 x7_1).f0)) ∧ w'.cell? ⟨(ad282.add ((x7_1).toNat * 2)).block, (ad282.add ((x7_1).toNat * 2)).off + 1, none⟩ = some (.int .i64 ((rd_T70 l0 x7_1).f1))) (ds := [17]) #[false, false, false, false, false, false, false, false, false, false, false, false, false, false, false, false, false, false] (by kernel_rfl) rfl rfl ⟨(blk_cell BK275.out 0).trans rfl, (blk_cell BK275.out 1).trans rfl, ((HB.out.cell (World.block_lt_of_cell? w _ hw299_0)).trans hw299_0), ((HB.out.cell (World.block_lt_of_cell? w _ hw299_1)).trans hw299_1), ((HB.out.cell (World.block_lt_of_cell? w _ hw301_0)).trans hw301_0), ((HB.out.cell (World.block_lt_of_cell? w _ hw301_1)).trans hw301_1)⟩ (fun hHeld => ?_); refine with_tabW spec_l5Put.tab6 spec_l5Put.bits6 (fun HT_ HW_ => ?_);generalize w28.drew = w29 at HO_5 BK275 HB hx299_0 hx299_1 hx301_0 hx301_1 hHeld ⊢;refine pure_ (i := 0) (N := some 15) (v := ?_) (a' := ?_) #[true, false, false, false, false, false, false, false, false, false, false, false, false, false, false, false, false, false] rfl rfl (any_of HT_.out (by kernel_rfl)) (fun _ _ _ h => h) (Or.inl ⟨by rfl, ?_⟩) ?_ ?_
       rotate_left
       ·intro w'
        go_simp
        with_reducible rfl
       rotate_left
       ·simp only [czP]
        rfl
       refine pure_ (i := 2) (N := some 17) (v := ?_) (a' := ?_) #[true, false, true, false, false, false, false, false, false, false, false, false, false, false, false, false, false, false] rfl rfl (any_of HT_.out (by kernel_rfl)) (fun _ _ _ h => h) (Or.inl ⟨by rfl, ?_⟩) ?_ ?_
       rotate_left
       ·intro w'
        go_simp
        with_reducible rfl
       rotate_left
       ·simp only [czP]
        rfl
       refine pure_ (i := 3) (N := some 18) (v := ?_) (a' := ?_) #[true, false, true, true, false, false, false, false, false, false, false, false, false, false, false, false, false, false] rfl rfl (any_of HT_.out (by kernel_rfl)) (fun _ _ _ h => h) (Or.inl ⟨by rfl, ?_⟩) ?_ ?_
       rotate_left
       ·intro w'
        go_simp
        with_reducible rfl
       rotate_left
       ·simp only [czP]
        rfl
       refine pure_ (i := 4) (N := some 19) (v := ?_) (a' := ?_) #[true, false, true, true, true, false, false, false, false, false, false, false, false, false, false, false, false, false] rfl rfl (any_of HT_.out (by kernel_rfl)) (fun _ _ _ h => h) (Or.inl ⟨by rfl, ?_⟩) ?_ ?_
       rotate_left
       ·intro w'
        go_simp
        with_reducible rfl
       rotate_left
       ·simp only [czP]
        rfl
       refine pure_ (i := 5) (N := some 20) (v := ?_) (a' := ?_) #[true, false, true, true, true, true, false, false, false, false, false, false, false, false, false, false, false, false] rfl rfl (any_of HT_.out (by kernel_rfl)) (fun _ _ _ h => h) (Or.inl ⟨by rfl, ?_⟩) ?_ ?_
       rotate_left
       ·intro w'
        go_simp
        with_reducible rfl
       rotate_left
       ·simp only [czP]
        rfl
       refine pure_ (i := 8) (N := some 23) (v := ?_) (a' := ?_) #[true, false, true, true, true, true, false, false, true, false, false, false, false, false, false, false, false, false] rfl rfl (any_of HT_.out (by kernel_rfl)) (fun _ _ _ h => h) (Or.inl ⟨by rfl, ?_⟩) ?_ ?_
       rotate_left
       ·intro w'
        go_simp
        with_reducible rfl
       rotate_left
       ·simp only [czP]
        rfl
       refine pure_ (i := 10) (N := some 25) (v := ?_) (a' := ?_) #[true, false, true, true, true, true, false, false, true, false, true, false, false, false, false, false, false, false] rfl rfl (any_of HT_.out (by kernel_rfl)) (fun _ _ _ h => h) (Or.inl ⟨by rfl, ?_⟩) ?_ ?_
       rotate_left
       ·intro w'
        go_simp
        with_reducible rfl
       rotate_left
       ·simp only [czP]
        rfl
       refine pure_ (i := 11) (N := some 26) (v := ?_) (a' := ?_) #[true, false, true, true, true, true, false, false, true, false, true, true, false, false, false, false, false, false] rfl rfl (any_of HT_.out (by kernel_rfl)) (fun _ _ _ h => h) (Or.inl ⟨by rfl, ?_⟩) ?_ ?_
       rotate_left
       ·intro w'
        go_simp
        with_reducible rfl
       rotate_left
       ·simp only [czP]
        rfl
       refine pure_ (i := 12) (N := some 27) (v := ?_) (a' := ?_) #[true, false, true, true, true, true, false, false, true, false, true, true, true, false, false, false, false, false] rfl rfl (any_of HT_.out (by kernel_rfl)) (fun _ _ _ h => h) (Or.inl ⟨by rfl, ?_⟩) ?_ ?_
       rotate_left
       ·intro w'
        go_simp
        with_reducible rfl
       rotate_left
       ·simp only [czP]
        rfl
       refine pure_ (i := 13) (N := some 28) (v := ?_) (a' := ?_) #[true, false, true, true, true, true, false, false, true, false, true, true, true, true, false, false, false, false] rfl rfl (any_of HT_.out (by kernel_rfl)) (fun _ _ _ h => h) (Or.inl ⟨by rfl, ?_⟩) ?_ ?_
       rotate_left
       ·intro w'
        go_simp
        with_reducible rfl
       rotate_left
       ·simp only [czP]
        rfl
       refine take_ (i := 1) (N := some 16) (v := ?_) (a' := ?_) #[true, true, true, true, true, true, false, false, true, false, true, true, true, true, false, false, false, false] rfl rfl (take_ofW HT_.out HW_.out (by kernel_rfl)) (fun _ _ _ h => h) (Or.inl ⟨by rfl, ?_⟩) hHeld ?_ ?_
       rotate_left
       ·rintro w' ⟨s0, s1, s2, s3, s4, s5⟩
        go_simp
        with_reducible rfl
       rotate_left
       ·simp only [czP]
        rfl
       refine take_ (i := 6) (N := some 21) (v := ?_) (a' := ?_) #[true, true, true, true, true, true, true, false, true, false, true, true, true, true, false, false, false, false] rfl rfl (take_ofW HT_.out HW_.out (by kernel_rfl)) (fun _ _ _ h => h) (Or.inl ⟨by rfl, ?_⟩) hHeld ?_ ?_
       rotate_left
       ·rintro w' ⟨s0, s1, s2, s3, s4, s5⟩
        go_simp
        with_reducible rfl
       rotate_left
       ·simp only [czP]
        rfl
       refine take_ (i := 9) (N := some 24) (v := ?_) (a' := ?_) #[true, true, true, true, true, true, true, false, true, true, true, true, true, true, false, false, false, false] rfl rfl (take_ofW HT_.out HW_.out (by kernel_rfl)) (fun _ _ _ h => h) (Or.inl ⟨by rfl, ?_⟩) hHeld ?_ ?_
       rotate_left
       ·rintro w' ⟨s0, s1, s2, s3, s4, s5⟩
        go_simp
        with_reducible rfl
       rotate_left
       ·simp only [czP]
        rfl
       refine take_ (i := 14) (N := some 29) (v := ?_) (a' := ?_) #[true, true, true, true, true, true, true, false, true, true, true, true, true, true, true, false, false, false] rfl rfl (take_ofW HT_.out HW_.out (by kernel_rfl)) (fun _ _ _ h => h) (Or.inl ⟨by rfl, ?_⟩) hHeld ?_ ?_
       rotate_left
       ·rintro w' ⟨s0, s1, s2, s3, s4, s5⟩
        go_simp
        with_reducible rfl
       rotate_left
       ·simp only [czP]
        rfl
       refine one_ (i := 7) (N := some 22) #[true, true, true, true, true, true, true, true, true, true, true, true, true, true, true, false, false, false] rfl rfl (one_of HT_.out (by kernel_rfl)) (by decide) (fun K hK => ?_);refine goes_ Try.func108 (by kernel_rfl) rfl #[.int .i64 x276000_1, .int .i64 ((rd_T70 l0 x7_1).f0)] (by rfl) rfl rfl (by (try simp only [List.map_toArray, List.map_cons, List.map_nil]); first | done | rfl | (simp only [List.length_drop, List.length_take]; rfl)) ?_
       with_reducible refine (spec_l1Min.calls x276000_1 ((rd_T70 l0 x7_1).f0) t300 _ A25.out).mono ?_
       rintro e w' ⟨rfl, ⟨nd, rfl⟩⟩
       refine ⟨_, rfl, ?_⟩;refine hK.out _ _ ⟨(blk_cell BK275.out 0).trans rfl, (blk_cell BK275.out 1).trans rfl, ((HB.out.cell (World.block_lt_of_cell? w _ hw299_0)).trans hw299_0), ((HB.out.cell (World.block_lt_of_cell? w _ hw299_1)).trans hw299_1), ((HB.out.cell (World.block_lt_of_cell? w _ hw301_0)).trans hw301_0), ((HB.out.cell (World.block_lt_of_cell? w _ hw301_1)).trans hw301_1)⟩ (fun hHeld => ?_);clear hK K;refine norm_ (a' := ?_) ?_ ?_
       rotate_left
       ·show Act.put _ (some 22) _ = _
        simp only [czP]
        rfl
       refine one_ (i := 15) (N := some 30) #[true, true, true, true, true, true, true, true, true, true, true, true, true, true, true, true, false, false] rfl rfl (one_of HT_.out (by kernel_rfl)) (by decide) (fun K hK => ?_);refine goes_ Try.func109 (by kernel_rfl) rfl #[.int .i64 x276001_1, .int .i64 ((rd_T70 l0 x7_1).f1)] (by rfl) rfl rfl (by (try simp only [List.map_toArray, List.map_cons, List.map_nil]); first | done | rfl | (simp only [List.length_drop, List.length_take]; rfl)) ?_
       with_reducible refine (spec_l1Max.calls x276001_1 ((rd_T70 l0 x7_1).f1) t302 _ A26.out).mono ?_
       rintro e w' ⟨rfl, ⟨nd, rfl⟩⟩
       refine ⟨_, rfl, ?_⟩;refine hK.out _ _ ⟨(blk_cell BK275.out 0).trans rfl, (blk_cell BK275.out 1).trans rfl, ((HB.out.cell (World.block_lt_of_cell? w _ hw299_0)).trans hw299_0), ((HB.out.cell (World.block_lt_of_cell? w _ hw299_1)).trans hw299_1), ((HB.out.cell (World.block_lt_of_cell? w _ hw301_0)).trans hw301_0), ((HB.out.cell (World.block_lt_of_cell? w _ hw301_1)).trans hw301_1)⟩ (fun hHeld => ?_);clear hK K;refine norm_ (a' := ?_) ?_ ?_
       rotate_left
       ·show Act.put _ (some 30) _ = _
        simp only [czP]
        rfl
       refine pure_ (i := 16) (N := some 31) (v := ?_) (a' := ?_) #[true, true, true, true, true, true, true, true, true, true, true, true, true, true, true, true, true, false] rfl rfl (any_of HT_.out (by kernel_rfl)) (fun _ _ _ h => h) (Or.inl ⟨by rfl, ?_⟩) ?_ ?_
       rotate_left
       ·intro w'
        go_simp
        with_reducible rfl
       rotate_left
       ·simp only [czP]
        rfl
       refine last_ (i := 17) (N := none) #[true, true, true, true, true, true, true, true, true, true, true, true, true, true, true, true, true, true] rfl rfl (one_of HT_.out (by kernel_rfl)) (by decide) (fun K hK => ?_);have hs30 : w29.cell? ⟨gb275, 0, none⟩ = some (.int .i64 x276000_1) := (blk_cell BK275.out 0).trans rfl;have hfs30 := blk_frozen BK275.out 0;have hs31 : w29.cell? ⟨gb275, 1, none⟩ = some (.int .i64 x276001_1) := (blk_cell BK275.out 1).trans rfl;have hfs31 := blk_frozen BK275.out 1;refine skip_ (w1 := ?_) (by rfl) rfl ?_ ?_
       rotate_left
       ·go_simp
        rfl
       refine hK.out _ _ ?_;clear hK K;refine done_ (done_of HT_.out (by kernel_rfl)) ?_
       try go_wp2
       go_roundg k1
       case measure => have := HK1.out; omega
       case rel => exact ⟨(x5_1), (x6_1), (wrap64 (x7_1 + 1)), (t300), (t302), Z11x3, Z11x3, H', ⟨by have := HK1.out; omega⟩, ⟨by (with_reducible repeat (first | apply Kd.R_alloc | apply Kd.R_drewN | apply Kd.R_drew)); exact Kd.R_mono (Kd.R_far (p := ⟨gb275, 1, none⟩) (Kd.R_far (p := ⟨gb275, 0, none⟩) (Kd.R_mono HO_5.out (fun k_ hk => (⟨hk, hk⟩ : _ ∧ k_ ≠ gb275))) (fun _ hk => hk.2) (.int .i64 t300)) (fun _ hk => hk.2) (.int .i64 t302)) (fun _ hk => hk.1)⟩, ⟨by (with_reducible repeat (first | refine blk_drewN ?_ _ | refine blk_drew ?_ | refine blk_alloc ?_ _)); refine blk_put (cs := #[.int .i64 t300, .int .i64 x276001_1]) ?_ 1 _ rfl; (with_reducible repeat (first | refine blk_drewN ?_ _ | refine blk_drew ?_ | refine blk_alloc ?_ _)); refine blk_put (cs := #[.int .i64 x276000_1, .int .i64 x276001_1]) ?_ 0 _ rfl; (with_reducible repeat (first | refine blk_drewN ?_ _ | refine blk_drew ?_ | refine blk_alloc ?_ _)); exact BK275.out⟩, ⟨Z11x0⟩⟩
    ·rw [if_neg c7] at H
     exact absurd H (by simp)
   ·rw [if_neg c6] at H
    have c6b0 : decide (x7_1 < (l0.length : Int)) = false := decide_eq_false c6;clear c6
    by_cases c32 : x6_1 = true
    ·subst c32
     have H1 : (some x5_1) = some r := by rw [if_pos rfl] at H; exact H
     clear H;have H := H1;clear H1;obtain rfl := Option.some.inj H;simp only [Option.some.injEq, Prod.mk.injEq] at H;obtain ⟨rfl⟩ := H
     go_wp2
     go_ret
     exact ⟨_, by first | rfl | (simp [errW_none, errW_some] <;> rfl) | (simp [*, errW_none, errW_some] <;> rfl), by (with_reducible repeat (first | apply Kd.R_alloc | apply Kd.R_drewN | apply Kd.R_drew)); exact Kd.R_mono HO_5.out (fun _ hk => trivial), Z11x0⟩
    ·replace c32 := Bool.eq_false_iff.mpr c32
     subst c32
     have H1 : (if x5_1.length < 8796093022208 then (some (x5_1 ++ [(⟨x276000_1, x276001_1⟩ : S70)])) else (none)) = some r := by rw [if_neg (show ¬ (false = true) by decide)] at H; exact H
     clear H;have H := H1;clear H1
     by_cases c33 : x5_1.length < 8796093022208
     ·rw [if_pos c33] at H
      have LMc33 := Aside0.mk c33;clear c33;obtain ⟨y279, hy279⟩ : ∃ y_ : List (S70), y_ = (x5_1 ++ [(⟨x276000_1, x276001_1⟩ : S70)]) := ⟨_, rfl⟩
      replace H : (some y279) = some r := by first | (rw [hy279]; with_reducible exact H) | (have H2_ := (Option.bind_some _ _).symm.trans H; rw [hy279]; with_reducible exact H2_) | (have H2_ := (Option.bind_some _ _).symm.trans H; with_reducible exact H2_) | with_reducible exact H | (rw [hy279]; exact H) | exact H
      have Ny279 := Aside0.mk hy279;clear hy279;obtain rfl := Option.some.inj H;simp only [Option.some.injEq, Prod.mk.injEq] at H;obtain ⟨rfl⟩ := H;have hcz34_0 : wr.cell? ⟨gb275, 0, none⟩ = some (.int .i64 x276000_1) := (blk_cell BK275.out 0).trans rfl;have hcz34_1 : wr.cell? ⟨gb275, 1, none⟩ = some (.int .i64 x276001_1) := (blk_cell BK275.out 1).trans rfl;have hfz34_0 := blk_frozen BK275.out 0;have hfz34_1 := blk_frozen BK275.out 1
      go_wp2_with (first | ((with_reducible refine gate_builtin (b := .append) (xs := #[.tmp 74, .tmp 76]) rfl ?_); at_builtin; refine Kd.R_append k70 (w0 := w) w.heap.size rfl (.tmp 74) (.tmp 76) 32 70 (.agg #[(.int .i64 0), (.int .i64 0)]) 16 rfl Try.underlying32 info70 rfl (by decide) (by omega) u5 x5_1 (⟨x276000_1, x276001_1⟩ : S70) [.int .i64 x276000_1, .int .i64 x276001_1] (fun k_ => k_ ≠ gb275) (fun _ => False) rfl rfl ?aP (fun _ hk => hk.elim) ?aF ?aO ?aB ?aS ?aL ?_; (case aP => exact k70_mkM _ _ _ (⟨x276000_1, x276001_1⟩ : S70)); (case aB => exact Z11x0); (case aF => exact (fun k_ hk => Kd.freshB (g := gb275) (o := .cells #[.int .i64 x276000_1, .int .i64 x276001_1] 70 (0, 0)) Z11x1 k_ hk)); (case aO => exact Z11x4); (case aS => exact (below_size Z11x0)); (case aL => have := LMc33.out; omega); intro v280 w35 ho hb hg hat; rw [← Ny279.out] at ho; have n0_ := Aside0.mk (blk_grown (g := gb275) (o := .cells #[.int .i64 x276000_1, .int .i64 x276001_1] 70 (0, 0)) Z11x1 hg (Kd.R_away HO_5.out (fun _ hk => hk))); have n1_ := Aside0.mk (hb); have n2_ := Aside0.mk (ho); clear BK275; clear HB; clear HO_5; have BK275 := n0_; have HB := n1_; have HO281 := n2_; clear n0_ n1_ n2_; clear ho hb hg hat))
      go_ret
      exact ⟨_, by first | rfl | (simp [errW_none, errW_some] <;> rfl) | (simp [*, errW_none, errW_some] <;> rfl), by (with_reducible repeat (first | apply Kd.R_alloc | apply Kd.R_drewN | apply Kd.R_drew)); exact Kd.R_mono HO281.out (fun _ hk => trivial), Z11x0⟩
     ·rw [if_neg c33] at H
      exact absurd H (by simp)

end Go.Proofs.Ytdciagkholijlaa.PFnExactEntryAdd
