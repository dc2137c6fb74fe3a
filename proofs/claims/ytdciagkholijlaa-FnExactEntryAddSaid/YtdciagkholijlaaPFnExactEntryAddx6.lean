-- Written by this session's changed copy of the kit's printer (wip/patch_print.py): not the kit's own print.
import Derived.Test.YtdciagkholijlaaPFnExactEntryAddx0
import Derived.Test.YtdciagkholijlaaPFnExactEntryAddx5
namespace Go.Proofs.Ytdciagkholijlaa.PFnExactEntryAdd
open Go.RowKit Go.Proofs.YtdciagkholijlaaW.PrintWords Go.Proofs.YtdciagkholijlaaW.PrintLast Go.Proofs.YtdciagkholijlaaW.PrintMore
attribute [local go_sem] max2_int min2_int max_two min_two max_three min_three max_four min_four   -- for this text's walks alone
set_option linter.unusedVariables false
set_option linter.unusedSimpArgs false
theorem Z6x0 {p : Prop} (h : p := by repeat (first | (with_reducible first | exact HB.out | apply below_alloc | apply pw_below_drewN | apply below_drew1) | exact HB.out)) : p := h
theorem Z6x1 {p : Prop} (h : p := by repeat (first | (with_reducible first | exact HB.out | apply below_alloc | apply pw_below_drewN | apply below_drew1 | refine below_set ?_ GE197.out) | exact HB.out)) : p := h
theorem Z6x2 {p : Prop} (h : p := by (with_reducible repeat (first | refine blk_drewN ?_ _ | refine blk_drew ?_ | refine blk_alloc ?_ _)); refine blk_put (cs := #[.int .i64 ((rd_T70 x12_1 x14_1).f0), .int .i64 0]) ?_ 1 _ rfl; (with_reducible repeat (first | refine blk_drewN ?_ _ | refine blk_drew ?_ | refine blk_alloc ?_ _)); refine blk_put (cs := #[.int .i64 0, .int .i64 0]) ?_ 0 _ rfl; (with_reducible repeat (first | refine blk_drewN ?_ _ | refine blk_drew ?_ | refine blk_alloc ?_ _)); exact BK197.out) : p := h
theorem Z6x3 {p : Prop} (h : p := by (with_reducible repeat (first | apply Kd.R_alloc | apply Kd.R_drewN | apply Kd.R_drew)); exact Kd.R_mono (Kd.R_far (p := ⟨gb197, 1, none⟩) (Kd.R_far (p := ⟨gb197, 0, none⟩) (Kd.R_mono HO_12.out (fun k_ hk => (⟨hk, hk.2⟩ : _ ∧ k_ ≠ gb197))) (fun _ hk => hk.2) (.int .i64 ((rd_T70 x12_1 x14_1).f0))) (fun _ hk => hk.2) (.int .i64 ((rd_T70 x12_1 x14_1).f1))) (fun _ hk => ⟨hk.1.1, hk.1.2⟩)) : p := h
theorem Z6x4 {p : Prop} (h : p := by (with_reducible repeat (first | apply Kd.R_alloc | apply Kd.R_drewN | apply Kd.R_drew)); exact Kd.R_mono (Kd.R_far (p := ⟨gb197, 1, none⟩) (Kd.R_far (p := ⟨gb197, 0, none⟩) (Kd.R_mono HO_4.out (fun k_ hk => (⟨hk, hk.2⟩ : _ ∧ k_ ≠ gb197))) (fun _ hk => hk.2) (.int .i64 ((rd_T70 x12_1 x14_1).f0))) (fun _ hk => hk.2) (.int .i64 ((rd_T70 x12_1 x14_1).f1))) (fun _ hk => ⟨hk.1.1, hk.1.2⟩)) : p := h
theorem Z6x5 {p : Prop} (h : p := by first | (with_reducible assumption) | assumption) : p := h
theorem Z6x6 {p : Prop} (h : p := by (with_reducible repeat (first | apply Kd.R_alloc | apply Kd.R_drewN | apply Kd.R_drew)); exact HO_12.out) : p := h
theorem Z6x7 {p : Prop} (h : p := by (with_reducible repeat (first | apply Kd.R_alloc | apply Kd.R_drewN | apply Kd.R_drew)); exact HO_4.out) : p := h
theorem Z6x8 {p : Prop} (h : p := by (with_reducible repeat (first | refine blk_drewN ?_ _ | refine blk_drew ?_ | refine blk_alloc ?_ _)); exact BK197.out) : p := h

def impl_union.l0 : Nat → List (S70) → List (S70) → Int → Int → Option ((List (S70)))
 | 0, _, _, _, _ => none
 | k + 1, x4, x12, x13, x14 => if x14 < x13 then (if 0 ≤ x14 then (if x14 < (x12.length : Int) then (if (x4.length : Int) > 0 then (if 0 ≤ (wrap64 ((x4.length : Int) - 1)) then (if (wrap64 ((x4.length : Int) - 1)) < (x4.length : Int) then (if ((rd_T70 x12 x14).f0) ≤ (wrap64 (((rd_T70 x4 (wrap64 ((x4.length : Int) - 1))).f1) + 1)) then (impl_union.l0 k (x4.set ((wrap64 ((x4.length : Int) - 1)) : Int).toNat (⟨(rd_T70 x4 (wrap64 ((x4.length : Int) - 1))).f0, mx ((rd_T70 x4 (wrap64 ((x4.length : Int) - 1))).f1) ((rd_T70 x12 x14).f1)⟩ : S70)) x12 x13 (wrap64 (x14 + 1))) else (if x4.length < 8796093022208 then (impl_union.l0 k (x4 ++ [(⟨(rd_T70 x12 x14).f0, (rd_T70 x12 x14).f1⟩ : S70)]) x12 x13 (wrap64 (x14 + 1))) else (none))) else (none)) else (none)) else (if x4.length < 8796093022208 then (impl_union.l0 k (x4 ++ [(⟨(rd_T70 x12 x14).f0, (rd_T70 x12 x14).f1⟩ : S70)]) x12 x13 (wrap64 (x14 + 1))) else (none))) else (none)) else (none)) else (some x4)
def impl_union.f (k : Nat) (l0 : List (S70)) : Option ((List (S70))) := (impl_copySet.f l0).bind fun t192 => ((slices_SortFunc_impl_Span.f t192).bind fun t195 => (impl_union.l0 k ([] : List (S70)) t195 (t192.length : Int) 0))
theorem impl_union.mono_l : ∀ k, (∀ y0 y1 y2 y3, LeO (impl_union.l0 k y0 y1 y2 y3) (impl_union.l0 (k + 1) y0 y1 y2 y3))
 | 0 => fun _ _ _ _ r h => by simp [impl_union.l0] at h
 | k + 1 => by
  have ih0 := impl_union.mono_l k
  ·intro y0 y1 y2 y3
   unfold impl_union.l0
   repeat' first
   | (with_reducible exact ih0 _ _ _ _)
   | (with_reducible exact LeO.refl _)
   | (with_reducible exact LeO.none _)
   | (with_reducible refine LeO.ite ?_ ?_)
   | (with_reducible refine LeO.bind ?_ (fun _ => ?_))
   | exact ih0 _ _ _ _
   | exact LeO.none _
   | refine LeO.ite ?_ ?_
   | refine LeO.bind ?_ (fun _ => ?_)
theorem impl_union.mono : ∀ a0 k, LeO (impl_union.f k a0) (impl_union.f (k + 1) a0) := by
 intro a0 k
 have ih0 := impl_union.mono_l k
 unfold impl_union.f
 repeat' first
   | (with_reducible exact ih0 _ _ _ _)
   | (with_reducible exact LeO.refl _)
   | (with_reducible exact LeO.none _)
   | (with_reducible refine LeO.ite ?_ ?_)
   | (with_reducible refine LeO.bind ?_ (fun _ => ?_))
   | exact ih0 _ _ _ _
   | exact LeO.none _
   | refine LeO.ite ?_ ?_
   | refine LeO.bind ?_ (fun _ => ?_)
def impl_union.T8 : Bool × List (List Nat × List Nat) := (true, [([], []), ([0], [0]), ([1], [1]), ([2], [2]), ([3, 2], [2, 3]), ([2], [2]), ([2], [2]), ([6, 2], [2, 6]), ([5, 7, 2], [2, 5, 7]), ([8, 2], [2, 8]), ([9, 2], [2, 9]), ([10, 2], [2, 10]), ([4, 11, 2], [2, 4, 11]), ([2, 12], [2, 12])])
def impl_union.B8 : List Nat := [0, 1, 3, 7, 15, 7, 7, 71, 231, 487, 999, 2023, 4095, 8191]
theorem impl_union.tab8 : rtab .any (opsOf Try.f89 8) = impl_union.T8 := by kernel_rfl
theorem impl_union.bits8 : waitsOk impl_union.T8.2 impl_union.B8 = true := by kernel_rfl
def impl_union.T9 : Bool × List (List Nat × List Nat) := (true, [([], []), ([], []), ([1], [1]), ([], []), ([], []), ([4], [4]), ([3, 5], [3, 5]), ([6], [6]), ([7], [7]), ([], []), ([9], [9]), ([8, 10], [8, 10]), ([0, 2, 0, 1, 2, 3, 4, 5, 6, 7, 8, 9, 10, 11], [0, 2]), ([12, 0, 1, 2, 3, 4, 5, 6, 7, 8, 9, 10, 11], [12]), ([13, 11, 0, 1, 2, 3, 4, 5, 6, 7, 8, 9, 10, 11], [11, 13])])
def impl_union.B9 : List Nat := [0, 0, 2, 0, 0, 16, 56, 120, 248, 0, 512, 2040, 4095, 8191, 16383]
theorem impl_union.tab9 : rtab .any (opsOf Try.f89 9) = impl_union.T9 := by kernel_rfl
theorem impl_union.bits9 : waitsOk impl_union.T9.2 impl_union.B9 = true := by kernel_rfl
set_option maxHeartbeats 8000000 in
set_option maxRecDepth 100000 in
theorem impl_union.calls (k : Nat) (A0 : Option Addr) (c0 : Nat) (l0 : List (S70)) (r : List (S70)) (w : World) (hr0 : Kd.C k70 w A0 l0.length l0) (hc0 : l0.length ≤ c0) (h : impl_union.f k l0 = some r) :
  Calls Try.prog 89 #[.slice A0 l0.length c0] w fun e w' => ∃ v0_ : Value, e = .returned (v0_) ∧ Kd.R k70 70 w' w.heap.size (fun _ => True) v0_ r ∧ Below w.heap.size w w' := by
 have hu70 := Try.underlying70
 have HR0 := Aside0.mk hr0
 have HC0 := Aside0.mk hc0
 clear hr0 hc0
 have HB := Aside0.mk (Below.refl w.heap.size w)
 have H : ((impl_copySet.f l0).bind fun t192 => ((slices_SortFunc_impl_Span.f t192).bind fun t195 => (impl_union.l0 k ([] : List (S70)) t195 (t192.length : Int) 0))) = some r := h
 clear h
 replace H := Option.bind_eq_some_iff.mp H
 obtain ⟨t192, A20, H⟩ := H
 replace H : ((slices_SortFunc_impl_Span.f t192).bind fun t195 => (impl_union.l0 k ([] : List (S70)) t195 (t192.length : Int) 0)) = some r := H
 have A2 := Aside0.mk A20
 clear A20
 replace H := Option.bind_eq_some_iff.mp H
 obtain ⟨t195, A30, H⟩ := H
 replace H : (impl_union.l0 k ([] : List (S70)) t195 (t192.length : Int) 0) = some r := H
 have A3 := Aside0.mk A30
 clear A30
 have H' := Aside0.mk H
 clear H
 go_enter Try.func89, Try.ntmps89
 go_wp2_with (first | ((with_reducible refine gate_callee (f := 90) rfl ?_); refine goesL_ (some 9) rfl rfl Try.func90 (by kernel_rfl) rfl #[.slice A0 l0.length c0] rfl (by (try simp only [List.map_toArray, List.map_cons, List.map_nil]); first | done | rfl | (simp only [List.length_drop, List.length_take]; rfl)) ?_; (with_reducible refine (impl_copySet.calls _ _ l0 t192 _ ?side1 ?side2 A2.out).mono ?_); (case side1 => repeat (first | exact HR0.out | (with_reducible refine Kd.C_alloc ?_ _) | (with_reducible refine Kd.C_drewN ?_ _) | (with_reducible refine Kd.C_drew ?_))); (case side2 => exact HC0.out); rintro e w4 ⟨v193, rfl, ho0, hb⟩; refine ⟨_, rfl, ?_⟩; have n0_ := Aside0.mk (Kd.R_lower ho0 (below_size Z6x0)); have n1_ := Aside0.mk (below_step Z6x0 hb); clear HB; have HO194 := n0_; have HB := n1_; clear n0_ n1_; (try clear hb); (try clear hb2); (try clear hk); (try clear hi); (try clear ho0); obtain ⟨Ao5, co5, eo5⟩ := Kd.R_slice HO194.out; subst eo5) | ((with_reducible refine gate_callee (f := 102) rfl ?_); refine goesL_ (some 11) rfl rfl Try.func102 (by kernel_rfl) rfl #[.slice Ao5 t192.length co5, .func (.func 103) #[] #[]] rfl (by (try simp only [List.map_toArray, List.map_cons, List.map_nil]); first | done | rfl | (simp only [List.length_drop, List.length_take]; rfl)) ?_; (with_reducible refine (slices_SortFunc_impl_Span.calls (fun k_ => some k_ = (.slice Ao5 t192.length co5 : Value).ownBlock) (.slice Ao5 t192.length co5) t192  t195 w _ ?side1 ?side2 A3.out).mono ?_); (case side1 => exact Z6x0); (case side2 => exact Kd.R_tight rfl HO194.out); rintro e w6 ⟨rfl, hy0, hb, hkp⟩; refine ⟨_, rfl, ?_⟩; have n0_ := Aside0.mk (Kd.R_reok rfl hy0 (fun k_ e_ => HO194.out.1 k_ e_)); have n1_ := Aside0.mk (hb); clear HO194; clear HB; have HO194 := n0_; have HB := n1_; clear n0_ n1_; (try clear hb); (try clear hkp); (try clear hy0)))
 go_loopg [4, 14] k (fun kq v4 v14 w' => ∃ (x4_1 : List (S70)) (x12_1 : List (S70)) (x14_1 : Int), v14 = .int .i64 x14_1 ∧ Aside0 (impl_union.l0 kq x4_1 x12_1 (t192.length : Int) x14_1 = some r) ∧ Aside0 (kq ≤ k) ∧ Aside0 (Kd.R k70 70 w' w.heap.size (fun k_ => some k_ ≠ ((.slice Ao5 t192.length co5) : Value).ownBlock) v4 x4_1) ∧ Aside0 (Kd.R k70 70 w' w.heap.size (fun k_ => some k_ ≠ (v4 : Value).ownBlock) (.slice Ao5 t192.length co5) x12_1) ∧ Aside0 (Below w.heap.size w w'))
 case atStart => exact ⟨(([] : List (S70))), (t195), (0), (by first | rfl | (simp; done) | (simp [*]; done)), H', ⟨Nat.le_refl _⟩, ⟨by first | exact Kd.R_nil _ _ _ _ _ | exact Kd.N_nil _ _ _ _ _ | exact Kd.V_nil _ _ _ _ _ | exact Kd.Q_nil _ _ _ _ _ | exact Kd.S_nil _ _ _ _ _⟩, ⟨by (with_reducible repeat (first | apply Kd.R_alloc | apply Kd.R_drewN | apply Kd.R_drew)); exact Kd.R_mono HO194.out (fun _ hk => (by simp [Value.ownBlock]))⟩, ⟨Z6x0⟩⟩
 case round =>
  clear H'
  try clear c1
  try clear p2
  obtain ⟨x4_1, x12_1, x14_1, rfl, HA, HK1, HO_4, HO_12, HB⟩ := hrel
  have hl12_1 := (Kd.R_reads' HO_12.out).1
  rw [hl12_1] at HO_12
  (try simp only [hl12_1])
  (try simp only [hl12_1] at HO_4)
  cases gk with
  | zero => exact absurd HA.out (by simp [impl_union.l0])
  | succ k1 =>
   have H := HA.out
   clear HA
   simp only [impl_union.l0] at H
   by_cases c7 : x14_1 < (t192.length : Int)
   ·rw [if_pos c7] at H
    have c7b0 : decide (x14_1 < (t192.length : Int)) = true := decide_eq_true c7;clear c7
    by_cases c8 : 0 ≤ x14_1
    ·rw [if_pos c8] at H
     have c8b0 : decide (0 ≤ x14_1) = true := decide_eq_true c8;clear c8
     by_cases c9 : x14_1 < (x12_1.length : Int)
     ·rw [if_pos c9] at H
      have c9b0 : decide (x14_1 < (x12_1.length : Int)) = true := decide_eq_true c9;clear c9
      by_cases c10 : (x4_1.length : Int) > 0
      ·rw [if_pos c10] at H
       have c10b0 : decide (0 < (x4_1.length : Int)) = true := decide_eq_true c10
       (try (have c10b1 : decide (0 < x4_1.length) = true := decide_eq_true (by omega)))
       (try (have c10b2 : (0 < x4_1.length) = True := eq_true (by omega)))
       have c10b3 : decide (0 < x4_1.length) = true := decide_eq_true (by omega);clear c10;obtain ⟨ji11, hji11⟩ : ∃ j_ : Int, (wrap64 ((x4_1.length : Int) - 1)) = j_ := ⟨_, rfl⟩
       replace H : (if 0 ≤ (ji11) then (if (ji11) < (x4_1.length : Int) then (if ((rd_T70 x12_1 x14_1).f0) ≤ (wrap64 (((rd_T70 x4_1 (ji11)).f1) + 1)) then (impl_union.l0 k1 (x4_1.set ((ji11) : Int).toNat (⟨(rd_T70 x4_1 (ji11)).f0, mx ((rd_T70 x4_1 (ji11)).f1) ((rd_T70 x12_1 x14_1).f1)⟩ : S70)) x12_1 (t192.length : Int) (wrap64 (x14_1 + 1))) else (if x4_1.length < 8796093022208 then (impl_union.l0 k1 (x4_1 ++ [(⟨(rd_T70 x12_1 x14_1).f0, (rd_T70 x12_1 x14_1).f1⟩ : S70)]) x12_1 (t192.length : Int) (wrap64 (x14_1 + 1))) else (none))) else (none)) else (none)) = some r := by first | (rw [hji11] at H; exact H) | (simp only [hji11] at H ⊢; exact H)
       have hji11w : (IntKind.i64.wrap ((x4_1.length : Int) - 1)) = ji11 := (i64_w _).trans hji11
       by_cases c12 : 0 ≤ (ji11)
       ·rw [if_pos c12] at H
        have c12b0 : decide (0 ≤ (ji11)) = true := decide_eq_true c12;clear c12
        by_cases c13 : (ji11) < (x4_1.length : Int)
        ·rw [if_pos c13] at H
         have c13b0 : decide ((ji11) < (x4_1.length : Int)) = true := decide_eq_true c13;clear c13
         by_cases c14 : ((rd_T70 x12_1 x14_1).f0) ≤ (wrap64 (((rd_T70 x4_1 (ji11)).f1) + 1))
         ·rw [if_pos c14] at H
          have c14b0 : decide (((rd_T70 x12_1 x14_1).f0) ≤ (wrap64 (((rd_T70 x4_1 (ji11)).f1) + 1))) = true := decide_eq_true c14
          (try (have c14b1 : decide (((rd_T70 x12_1 x14_1).f0) ≤ (IntKind.i64.wrap (((rd_T70 x4_1 (ji11)).f1) + 1))) = true := by simp only [i64_w]; first | exact decide_eq_true c14 | simpa using c14))
          clear c14;obtain ⟨ji15, hji15⟩ : ∃ j_ : Int, (mx ((rd_T70 x4_1 (ji11)).f1) ((rd_T70 x12_1 x14_1).f1)) = j_ := ⟨_, rfl⟩
          replace H : (impl_union.l0 k1 (x4_1.set ((ji11) : Int).toNat (⟨(rd_T70 x4_1 (ji11)).f0, ji15⟩ : S70)) x12_1 (t192.length : Int) (wrap64 (x14_1 + 1))) = some r := by first | (rw [hji15] at H; exact H) | (simp only [hji15] at H ⊢; exact H)
          have hji15_ : (if ((rd_T70 x4_1 (ji11)).f1) < ((rd_T70 x12_1 x14_1).f1) then ((rd_T70 x12_1 x14_1).f1) else ((rd_T70 x4_1 (ji11)).f1)) = ji15 := hji15;obtain ⟨y200, hy200⟩ : ∃ y_ : List (S70), y_ = (x4_1.set ((ji11) : Int).toNat (⟨(rd_T70 x4_1 (ji11)).f0, ji15⟩ : S70)) := ⟨_, rfl⟩
          replace H : (impl_union.l0 k1 y200 x12_1 (t192.length : Int) (wrap64 (x14_1 + 1))) = some r := by first | (rw [hy200]; with_reducible exact H) | (have H2_ := (Option.bind_some _ _).symm.trans H; rw [hy200]; with_reducible exact H2_) | (have H2_ := (Option.bind_some _ _).symm.trans H; with_reducible exact H2_) | with_reducible exact H | (rw [hy200]; exact H) | exact H
          have Ny200 := Aside0.mk hy200;clear hy200;have H' := Aside0.mk H;clear H;have p196 : 0 ≤ (x14_1 : Int) := of_decide_eq_true Z6x5;have q196 : x14_1 < (x12_1.length : Int) := of_decide_eq_true Z6x5;obtain ⟨ad196, e196, hx196_0, hx196_1⟩ := at_T70 (Kd.R_reads' HO_12.out).2.2 x14_1 p196 q196
          cases e196
          replace p196 := eq_true p196;replace q196 := eq_true q196
          try go_wp2_with (first | ((with_reducible refine gate_dst (N := 6) rfl ?_); refine box_event ?hg (N := 6) ?hd (cs := #[.int .i64 0, .int .i64 0]) (t := 70) ?hr ?_; (case hd => rfl); (case hg => rfl); (case hr => first | (go_simp; done) | (go_simp; rfl)); intro gb197 hg w17 hbox hb; have n0_ := Aside0.mk (Kd.R_below (Kd.R_elderB Z6x7 gb197 (Nat.le_of_eq hg.symm)) hb); have n1_ := Aside0.mk (Kd.R_below (Kd.R_elderB Z6x6 gb197 (Nat.le_of_eq hg.symm)) hb); have n2_ := Aside0.mk (below_step Z6x0 hb); have n3_ := Aside0.mk (hbox); have n4_ := Aside0.mk ((by rw [hg]; exact (below_size Z6x0) : w.heap.size ≤ gb197)); have n5_ := Aside0.mk ((by rw [hg]; exact (below_size Z6x0) : w.heap.size ≤ gb197)); clear HO_4; clear HO_12; clear HB; have HO_4 := n0_; have HO_12 := n1_; have HB := n2_; have BK197 := n3_; have GW197 := n4_; have GE197 := n5_; clear n0_ n1_ n2_ n3_ n4_ n5_; clear hb hbox hg; have hcz18_0 : w17.cell? ⟨gb197, 0, none⟩ = some (.int .i64 0) := (blk_cell BK197.out 0).trans rfl; have hcz18_1 : w17.cell? ⟨gb197, 1, none⟩ = some (.int .i64 0) := (blk_cell BK197.out 1).trans rfl; have hfz18_0 := blk_frozen BK197.out 0; have hfz18_1 := blk_frozen BK197.out 1; obtain ⟨Ao19, co19, eo19⟩ := Kd.R_slice HO_4.out; subst eo19))
          have n0_ : Aside0 (Kd.R k70 70 ((w17.setCell ⟨gb197, 0, none⟩ (.int .i64 ((rd_T70 x12_1 x14_1).f0))).setCell ⟨gb197, 1, none⟩ (.int .i64 ((rd_T70 x12_1 x14_1).f1))) w.heap.size (fun k_ => some k_ ≠ (.slice (some ad196) x12_1.length co5 : Value).ownBlock ∧ k_ ≠ gb197) (.slice Ao19 x4_1.length co19) x4_1) := ⟨Z6x4⟩;have n1_ : Aside0 (Kd.R k70 70 ((w17.setCell ⟨gb197, 0, none⟩ (.int .i64 ((rd_T70 x12_1 x14_1).f0))).setCell ⟨gb197, 1, none⟩ (.int .i64 ((rd_T70 x12_1 x14_1).f1))) w.heap.size (fun k_ => some k_ ≠ (.slice Ao19 x4_1.length co19 : Value).ownBlock ∧ k_ ≠ gb197) (.slice (some ad196) x12_1.length co5) x12_1) := ⟨Z6x3⟩;have n2_ : Aside0 (((w17.setCell ⟨gb197, 0, none⟩ (.int .i64 ((rd_T70 x12_1 x14_1).f0))).setCell ⟨gb197, 1, none⟩ (.int .i64 ((rd_T70 x12_1 x14_1).f1))).heap[gb197]? = some (.cells #[.int .i64 ((rd_T70 x12_1 x14_1).f0), .int .i64 ((rd_T70 x12_1 x14_1).f1)] 70 (0, 0))) := ⟨Z6x2⟩;have n3_ : Aside0 (Below w.heap.size w ((w17.setCell ⟨gb197, 0, none⟩ (.int .i64 ((rd_T70 x12_1 x14_1).f0))).setCell ⟨gb197, 1, none⟩ (.int .i64 ((rd_T70 x12_1 x14_1).f1)))) := ⟨Z6x1⟩
          (try clear HO_4)
          (try clear HO_12)
          (try clear BK197)
          (try clear HB)
          generalize ((w17.setCell ⟨gb197, 0, none⟩ (.int .i64 ((rd_T70 x12_1 x14_1).f0))).setCell ⟨gb197, 1, none⟩ (.int .i64 ((rd_T70 x12_1 x14_1).f1))) = w20 at n0_ n1_ n2_ n3_ ⊢;have HO_4 := n0_;have HO_12 := n1_;have BK197 := n2_;have HB := n3_;clear n0_ n1_ n2_ n3_;have n0_ := Aside0.mk (Kd.R_drew HO_4.out);have n1_ := Aside0.mk (Kd.R_drew HO_12.out);have n2_ := Aside0.mk (blk_drew BK197.out);have n3_ := Aside0.mk (below_drew1 HB.out);clear HO_4;clear HO_12;clear BK197;clear HB;have HO_4 := n0_;have HO_12 := n1_;have BK197 := n2_;have HB := n3_;clear n0_ n1_ n2_ n3_;have p198 : 0 ≤ ((ji11) : Int) := of_decide_eq_true Z6x5;have q198 : (ji11) < (x4_1.length : Int) := of_decide_eq_true Z6x5;obtain ⟨ad198, e198, hx198_0, hx198_1⟩ := at_T70 (Kd.R_reads' HO_4.out).2.2 (ji11) p198 q198
          cases e198
          replace p198 := eq_true p198;replace q198 := eq_true q198;refine start_ (n := 14) (S := fun w' => w'.cell? ⟨gb197, 0, none⟩ = some (.int .i64 ((rd_T70 x12_1 x14_1).f0)) ∧ w'.cell? ⟨gb197, 1, none⟩ = some (.int .i64 ((rd_T70 x12_1 x14_1).f1)) ∧ w'.cell? (ad198.add (((ji11)).toNat * 2)) = some (.int .i64 ((rd_T70 x4_1 (ji11)).f0)) ∧ w'.cell? ⟨(ad198.add (((ji11)).toNat * 2)).block, (ad198.add (((ji11)).toNat * 2)).off + 1, none⟩ = some (.int .i64 ((rd_T70 x4_1 (ji11)).f1))) (ds := []) #[false, false, false, false, false, false, false, false, false, false, false, false, false, false] (by kernel_rfl) rfl rfl ⟨(blk_cell BK197.out 0).trans rfl, (blk_cell BK197.out 1).trans rfl, hx198_0, hx198_1⟩ (fun hHeld => ?_); refine with_tabW impl_union.tab8 impl_union.bits8 (fun HT_ HW_ => ?_);generalize w20.drew = w21 at HO_4 HO_12 BK197 HB hx198_0 hx198_1 hHeld ⊢;refine pure_ (i := 0) (N := some 20) (v := ?_) (a' := ?_) #[true, false, false, false, false, false, false, false, false, false, false, false, false, false] rfl rfl (any_of HT_.out (by kernel_rfl)) (fun _ _ _ h => h) (Or.inl ⟨by rfl, ?_⟩) ?_ ?_
          rotate_left
          ·intro w'
           go_simp
           with_reducible rfl
          rotate_left
          ·simp only [czP]
           rfl
          refine pure_ (i := 1) (N := some 21) (v := ?_) (a' := ?_) #[true, true, false, false, false, false, false, false, false, false, false, false, false, false] rfl rfl (any_of HT_.out (by kernel_rfl)) (fun _ _ _ h => h) (Or.inl ⟨by rfl, ?_⟩) ?_ ?_
          rotate_left
          ·intro w'
           go_simp
           with_reducible rfl
          rotate_left
          ·simp only [czP]
           rfl
          refine pure_ (i := 2) (N := some 22) (v := ?_) (a' := ?_) #[true, true, true, false, false, false, false, false, false, false, false, false, false, false] rfl rfl (any_of HT_.out (by kernel_rfl)) (fun _ _ _ h => h) (Or.inl ⟨by rfl, ?_⟩) ?_ ?_
          rotate_left
          ·intro w'
           go_simp
           with_reducible rfl
          rotate_left
          ·simp only [czP]
           rfl
          refine pure_ (i := 3) (N := some 23) (v := ?_) (a' := ?_) #[true, true, true, true, false, false, false, false, false, false, false, false, false, false] rfl rfl (any_of HT_.out (by kernel_rfl)) (fun _ _ _ h => h) (Or.inl ⟨by rfl, ?_⟩) ?_ ?_
          rotate_left
          ·intro w'
           go_simp
           with_reducible rfl
          rotate_left
          ·simp only [czP]
           rfl
          refine pure_ (i := 5) (N := some 25) (v := ?_) (a' := ?_) #[true, true, true, true, false, true, false, false, false, false, false, false, false, false] rfl rfl (any_of HT_.out (by kernel_rfl)) (fun _ _ _ h => h) (Or.inl ⟨by rfl, ?_⟩) ?_ ?_
          rotate_left
          ·intro w'
           go_simp
           with_reducible rfl
          rotate_left
          ·simp only [czP]
           rfl
          refine pure_ (i := 6) (N := some 26) (v := ?_) (a' := ?_) #[true, true, true, true, false, true, true, false, false, false, false, false, false, false] rfl rfl (any_of HT_.out (by kernel_rfl)) (fun _ _ _ h => h) (Or.inl ⟨by rfl, ?_⟩) ?_ ?_
          rotate_left
          ·intro w'
           go_simp
           with_reducible rfl
          rotate_left
          ·simp only [czP]
           rfl
          refine pure_ (i := 7) (N := some 27) (v := ?_) (a' := ?_) #[true, true, true, true, false, true, true, true, false, false, false, false, false, false] rfl rfl (any_of HT_.out (by kernel_rfl)) (fun _ _ _ h => h) (Or.inl ⟨by rfl, ?_⟩) ?_ ?_
          rotate_left
          ·intro w'
           go_simp
           with_reducible rfl
          rotate_left
          ·simp only [czP]
           rfl
          refine pure_ (i := 8) (N := some 28) (v := ?_) (a' := ?_) #[true, true, true, true, false, true, true, true, true, false, false, false, false, false] rfl rfl (any_of HT_.out (by kernel_rfl)) (fun _ _ _ h => h) (Or.inl ⟨by rfl, ?_⟩) ?_ ?_
          rotate_left
          ·intro w'
           go_simp
           with_reducible rfl
          rotate_left
          ·simp only [czP]
           rfl
          refine pure_ (i := 9) (N := some 29) (v := ?_) (a' := ?_) #[true, true, true, true, false, true, true, true, true, true, false, false, false, false] rfl rfl (any_of HT_.out (by kernel_rfl)) (fun _ _ _ h => h) (Or.inl ⟨by rfl, ?_⟩) ?_ ?_
          rotate_left
          ·intro w'
           go_simp
           with_reducible rfl
          rotate_left
          ·simp only [czP]
           rfl
          refine take_ (i := 4) (N := some 24) (v := ?_) (a' := ?_) #[true, true, true, true, true, true, true, true, true, true, false, false, false, false] rfl rfl (take_ofW HT_.out HW_.out (by kernel_rfl)) (fun _ _ _ h => h) (Or.inl ⟨by rfl, ?_⟩) hHeld ?_ ?_
          rotate_left
          ·rintro w' ⟨s0, s1, s2, s3⟩
           go_simp
           with_reducible rfl
          rotate_left
          ·simp only [czP]
           rfl
          refine take_ (i := 10) (N := some 30) (v := ?_) (a' := ?_) #[true, true, true, true, true, true, true, true, true, true, true, false, false, false] rfl rfl (take_ofW HT_.out HW_.out (by kernel_rfl)) (fun _ _ _ h => h) (Or.inl ⟨by rfl, ?_⟩) hHeld ?_ ?_
          rotate_left
          ·rintro w' ⟨s0, s1, s2, s3⟩
           go_simp
           with_reducible rfl
          rotate_left
          ·simp only [czP]
           rfl
          refine pure_ (i := 11) (N := some 31) (v := ?_) (a' := ?_) #[true, true, true, true, true, true, true, true, true, true, true, true, false, false] rfl rfl (any_of HT_.out (by kernel_rfl)) (fun _ _ _ h => h) (Or.inl ⟨by rfl, ?_⟩) ?_ ?_
          rotate_left
          ·intro w'
           go_simp
           with_reducible rfl
          rotate_left
          ·simp only [czP]
           rfl
          refine pure_ (i := 12) (N := some 32) (v := ?_) (a' := ?_) #[true, true, true, true, true, true, true, true, true, true, true, true, true, false] rfl rfl (any_of HT_.out (by kernel_rfl)) (fun _ _ _ h => h) (Or.inl ⟨by rfl, ?_⟩) ?_ ?_
          rotate_left
          ·intro w'
           go_simp
           with_reducible rfl
          rotate_left
          ·simp only [czP]
           rfl
          refine pure_ (i := 13) (N := some 33) (v := ?_) (a' := ?_) #[true, true, true, true, true, true, true, true, true, true, true, true, true, true] rfl rfl (any_of HT_.out (by kernel_rfl)) (fun _ _ _ h => h) (Or.inl ⟨by rfl, ?_⟩) ?_ ?_
          rotate_left
          ·intro w'
           go_simp
           with_reducible rfl
          rotate_left
          ·simp only [czP]
           rfl
          refine done_ (done_of HT_.out (by kernel_rfl)) ?_
          try go_wp2
          have n0_ := Aside0.mk (Kd.R_drew HO_4.out);have n1_ := Aside0.mk (Kd.R_drew HO_12.out);have n2_ := Aside0.mk (blk_drew BK197.out);have n3_ := Aside0.mk (below_drew1 HB.out);clear HO_4;clear HO_12;clear BK197;clear HB;have HO_4 := n0_;have HO_12 := n1_;have BK197 := n2_;have HB := n3_;clear n0_ n1_ n2_ n3_;have p199 : 0 ≤ ((ji11) : Int) := of_decide_eq_true Z6x5;have q199 : (ji11) < (x4_1.length : Int) := of_decide_eq_true Z6x5;obtain ⟨ad199, e199, hx199_0, hx199_1⟩ := at_T70 (Kd.R_reads' HO_4.out).2.2 (ji11) p199 q199;obtain rfl : ad198 = ad199 := (by injection e199);replace p199 := eq_true p199;replace q199 := eq_true q199;have p16 : 0 ≤ ((ji11) : Int) := of_decide_eq_true Z6x5;have q16 : ((ji11) : Int) < ((x4_1.length : Int) : Int) := of_decide_eq_true Z6x5;obtain ⟨go16, co16, eo16, gb16, gl16, cl16, HG16⟩ := Kd.R_form HO_4.out (by omega)
          (first | cases eo16 | (injection eo16 with ea_ en_ ec_; (first | subst ea_ | (injection ea_ with ea_; subst ea_)); subst ec_; clear en_))
          have GB16 := Aside0.mk gb16;have GG16 := Aside0.mk HG16;clear gb16 gl16 HG16
          (first | simp only [add_plain] at hx198_0 | skip)
          (first | simp only [add_plain] at hx198_1 | skip)
          (first | simp only [add_plain] at hx199_0 | skip)
          (first | simp only [add_plain] at hx199_1 | skip)
          obtain ⟨ce16, hcl16, hM16, hcc16, hfr16⟩ := Kd.R_elem HO_4.out z70 ((ji11) : Int) p16 q16;obtain rfl := k70_openM hM16;have hx16_0 : World.cell? _ ⟨go16, ((ji11) : Int).toNat * 2, none⟩ = some (.int .i64 ((rd_T70 x4_1 (ji11)).f0)) := hcc16 0 _ rfl;have hx16_1 : World.cell? _ ⟨go16, ((ji11) : Int).toNat * 2 + 1, none⟩ = some (.int .i64 ((rd_T70 x4_1 (ji11)).f1)) := hcc16 1 _ rfl;have hf16_0 : World.frozen? _ ⟨go16, ((ji11) : Int).toNat * 2, none⟩ = false := hfr16 0;have hf16_1 : World.frozen? _ ⟨go16, ((ji11) : Int).toNat * 2 + 1, none⟩ = false := hfr16 1;clear hcl16 hcc16 hfr16; (try clear hM16);replace p16 := eq_true p16;replace q16 := eq_true q16;obtain ⟨ce23, hcl23, hM23, hcc23, hfr23⟩ := Kd.R_elem HO_4.out z70 ((ji11) : Int) (of_decide_eq_true Z6x5) (by have h_ : ((ji11) : Int) < ((x4_1.length : Int) : Int) := of_decide_eq_true Z6x5; first | exact h_ | (have e_ := (Kd.R_reads' HO_4.out).1; omega) | simpa using h_);obtain rfl := k70_openM hM23;have HP23 := (Kd.R_seg HO_4.out ((ji11) : Int) (of_decide_eq_true Z6x5) (by have h_ : ((ji11) : Int) < ((x4_1.length : Int) : Int) := of_decide_eq_true Z6x5; first | exact h_ | (have e_ := (Kd.R_reads' HO_4.out).1; omega) | simpa using h_) (seg := [.int .i64 ji15]) (j := 1) hcl23 hcc23 (show 2 ≤ 2 from by decide) (x' := (⟨(rd_T70 x4_1 (ji11)).f0, ji15⟩ : S70)) (k70_mkM _ _ _ (⟨(rd_T70 x4_1 (ji11)).f0, ji15⟩ : S70) ) (fun _ hk => hk)).1;rw [← Ny200.out] at HP23;have HQ23 := Aside0.mk HP23;clear hcl23 hcc23 hfr23 HP23; (try clear hM23);refine start_ (n := 15) (S := fun w' => w'.cell? ⟨gb197, 0, none⟩ = some (.int .i64 ((rd_T70 x12_1 x14_1).f0)) ∧ w'.cell? ⟨gb197, 1, none⟩ = some (.int .i64 ((rd_T70 x12_1 x14_1).f1)) ∧ w'.cell? (⟨go16, (((ji11)).toNat * 2), none⟩ : Addr) = some (.int .i64 ((rd_T70 x4_1 (ji11)).f0)) ∧ w'.cell? ⟨go16, (((ji11)).toNat * 2) + 1, none⟩ = some (.int .i64 ((rd_T70 x4_1 (ji11)).f1))) (ds := [14]) #[false, false, false, false, false, false, false, false, false, false, false, false, false, false, false] (by kernel_rfl) rfl rfl ⟨(blk_cell BK197.out 0).trans rfl, (blk_cell BK197.out 1).trans rfl, hx199_0, hx199_1⟩ (fun hHeld => ?_); refine with_tabW impl_union.tab9 impl_union.bits9 (fun HT_ HW_ => ?_);generalize w21.drew = w22 at HO_4 HO_12 BK197 HB GG16 HQ23 hf16_0 hf16_1 hx16_0 hx16_1 hx198_0 hx198_1 hx199_0 hx199_1 hHeld ⊢;refine pure_ (i := 0) (N := some 34) (v := ?_) (a' := ?_) #[true, false, false, false, false, false, false, false, false, false, false, false, false, false, false] rfl rfl (any_of HT_.out (by kernel_rfl)) (fun _ _ _ h => h) (Or.inl ⟨by rfl, ?_⟩) ?_ ?_
          rotate_left
          ·intro w'
           go_simp
           with_reducible rfl
          rotate_left
          ·simp only [czP]
           rfl
          refine pure_ (i := 1) (N := some 35) (v := ?_) (a' := ?_) #[true, true, false, false, false, false, false, false, false, false, false, false, false, false, false] rfl rfl (any_of HT_.out (by kernel_rfl)) (fun _ _ _ h => h) (Or.inl ⟨by rfl, ?_⟩) ?_ ?_
          rotate_left
          ·intro w'
           go_simp
           with_reducible rfl
          rotate_left
          ·simp only [czP]
           rfl
          refine pure_ (i := 2) (N := some 36) (v := ?_) (a' := ?_) #[true, true, true, false, false, false, false, false, false, false, false, false, false, false, false] rfl rfl (any_of HT_.out (by kernel_rfl)) (fun _ _ _ h => h) (Or.inl ⟨by rfl, ?_⟩) ?_ ?_
          rotate_left
          ·intro w'
           go_simp
           with_reducible rfl
          rotate_left
          ·simp only [czP]
           rfl
          refine pure_ (i := 3) (N := some 37) (v := ?_) (a' := ?_) #[true, true, true, true, false, false, false, false, false, false, false, false, false, false, false] rfl rfl (any_of HT_.out (by kernel_rfl)) (fun _ _ _ h => h) (Or.inl ⟨by rfl, ?_⟩) ?_ ?_
          rotate_left
          ·intro w'
           go_simp
           with_reducible rfl
          rotate_left
          ·simp only [czP]
           rfl
          refine pure_ (i := 4) (N := some 38) (v := ?_) (a' := ?_) #[true, true, true, true, true, false, false, false, false, false, false, false, false, false, false] rfl rfl (any_of HT_.out (by kernel_rfl)) (fun _ _ _ h => h) (Or.inl ⟨by rfl, ?_⟩) ?_ ?_
          rotate_left
          ·intro w'
           go_simp
           with_reducible rfl
          rotate_left
          ·simp only [czP]
           rfl
          refine pure_ (i := 5) (N := some 39) (v := ?_) (a' := ?_) #[true, true, true, true, true, true, false, false, false, false, false, false, false, false, false] rfl rfl (any_of HT_.out (by kernel_rfl)) (fun _ _ _ h => h) (Or.inl ⟨by rfl, ?_⟩) ?_ ?_
          rotate_left
          ·intro w'
           go_simp
           with_reducible rfl
          rotate_left
          ·simp only [czP]
           rfl
          refine pure_ (i := 6) (N := some 40) (v := ?_) (a' := ?_) #[true, true, true, true, true, true, true, false, false, false, false, false, false, false, false] rfl rfl (any_of HT_.out (by kernel_rfl)) (fun _ _ _ h => h) (Or.inl ⟨by rfl, ?_⟩) ?_ ?_
          rotate_left
          ·intro w'
           go_simp
           with_reducible rfl
          rotate_left
          ·simp only [czP]
           rfl
          refine pure_ (i := 7) (N := some 41) (v := ?_) (a' := ?_) #[true, true, true, true, true, true, true, true, false, false, false, false, false, false, false] rfl rfl (any_of HT_.out (by kernel_rfl)) (fun _ _ _ h => h) (Or.inl ⟨by rfl, ?_⟩) ?_ ?_
          rotate_left
          ·intro w'
           go_simp
           with_reducible rfl
          rotate_left
          ·simp only [czP]
           rfl
          refine pure_ (i := 9) (N := some 43) (v := ?_) (a' := ?_) #[true, true, true, true, true, true, true, true, false, true, false, false, false, false, false] rfl rfl (any_of HT_.out (by kernel_rfl)) (fun _ _ _ h => h) (Or.inl ⟨by rfl, ?_⟩) ?_ ?_
          rotate_left
          ·intro w'
           go_simp
           with_reducible rfl
          rotate_left
          ·simp only [czP]
           rfl
          refine take_ (i := 8) (N := some 42) (v := ?_) (a' := ?_) #[true, true, true, true, true, true, true, true, true, true, false, false, false, false, false] rfl rfl (take_ofW HT_.out HW_.out (by kernel_rfl)) (fun _ _ _ h => h) (Or.inl ⟨by rfl, ?_⟩) hHeld ?_ ?_
          rotate_left
          ·rintro w' ⟨s0, s1, s2, s3⟩
           go_simp
           with_reducible rfl
          rotate_left
          ·simp only [czP]
           rfl
          refine take_ (i := 10) (N := some 44) (v := ?_) (a' := ?_) #[true, true, true, true, true, true, true, true, true, true, true, false, false, false, false] rfl rfl (take_ofW HT_.out HW_.out (by kernel_rfl)) (fun _ _ _ h => h) (Or.inl ⟨by rfl, ?_⟩) hHeld ?_ ?_
          rotate_left
          ·rintro w' ⟨s0, s1, s2, s3⟩
           go_simp
           with_reducible rfl
          rotate_left
          ·simp only [czP]
           rfl
          refine pure_ (i := 11) (N := some 45) (v := ?_) (a' := ?_) #[true, true, true, true, true, true, true, true, true, true, true, true, false, false, false] rfl rfl (any_of HT_.out (by kernel_rfl)) (fun _ _ _ h => h) (Or.inl ⟨by rfl, ?_⟩) ?_ ?_
          rotate_left
          ·intro w'
           go_simp
           with_reducible rfl
          rotate_left
          ·simp only [czP]
           rfl
          refine pure_ (i := 12) (N := some 46) (v := ?_) (a' := ?_) #[true, true, true, true, true, true, true, true, true, true, true, true, true, false, false] rfl rfl (any_of HT_.out (by kernel_rfl)) (fun _ _ _ h => h) (Or.inl ⟨by rfl, ?_⟩) ?_ ?_
          rotate_left
          ·intro w'
           go_simp
           with_reducible rfl
          rotate_left
          ·simp only [czP]
           rfl
          refine pure_ (i := 13) (N := some 47) (v := ?_) (a' := ?_) #[true, true, true, true, true, true, true, true, true, true, true, true, true, true, false] rfl rfl (any_of HT_.out (by kernel_rfl)) (fun _ _ _ h => h) (Or.inl ⟨by rfl, ?_⟩) ?_ ?_
          rotate_left
          ·intro w'
           go_simp
           with_reducible rfl
          rotate_left
          ·simp only [czP]
           rfl
          refine last_ (i := 14) (N := none) #[true, true, true, true, true, true, true, true, true, true, true, true, true, true, true] rfl rfl (one_of HT_.out (by kernel_rfl)) (by decide) (fun K hK => ?_);refine skip_ (w1 := ?_) (by rfl) rfl ?_ ?_
          rotate_left
          ·go_simp
           rfl
          refine hK.out _ _ ?_;clear hK K;refine done_ (done_of HT_.out (by kernel_rfl)) ?_
          try go_wp2
          (try simp only [← hl12_1])
          go_roundg k1
          case measure => have := HK1.out; omega
          case rel => exact ⟨(y200), (x12_1), (wrap64 (x14_1 + 1)), (by first | rfl | (simp; done) | (simp [*]; done)), H', ⟨by have := HK1.out; omega⟩, ⟨by (try simp only [hl12_1]); (with_reducible repeat (first | apply Kd.R_alloc | apply Kd.R_drewN | apply Kd.R_drew)); exact Kd.R_mono HQ23.out (fun _ hk => hk.1)⟩, ⟨by (try simp only [hl12_1]); (with_reducible repeat (first | apply Kd.R_alloc | apply Kd.R_drewN | apply Kd.R_drew)); exact Kd.R_mono (Kd.R_far (p := ⟨go16, ((ji11) : Int).toNat * 2 + 1, none⟩) (Kd.R_mono HO_12.out (fun k_ hk => (⟨hk, fun e_ => hk.1 (by rw [e_]; rfl)⟩ : _ ∧ k_ ≠ go16))) (fun _ hk => hk.2) (.int .i64 ji15)) (fun _ hk => hk.1.1)⟩, ⟨by repeat (first | (with_reducible first | exact HB.out | apply below_alloc | apply pw_below_drewN | apply below_drew1 | refine below_set ?_ GB16.out | refine below_set ?_ GE197.out) | exact HB.out)⟩⟩
         ·rw [if_neg c14] at H
          have c14b0 : decide (((rd_T70 x12_1 x14_1).f0) ≤ (wrap64 (((rd_T70 x4_1 (ji11)).f1) + 1))) = false := decide_eq_false c14
          (try (have c14b1 : decide (((rd_T70 x12_1 x14_1).f0) ≤ (IntKind.i64.wrap (((rd_T70 x4_1 (ji11)).f1) + 1))) = false := by simp only [i64_w]; first | exact decide_eq_false c14 | simpa using c14))
          clear c14
          by_cases c24 : x4_1.length < 8796093022208
          ·rw [if_pos c24] at H
           have LMc24 := Aside0.mk c24;clear c24;obtain ⟨y201, hy201⟩ : ∃ y_ : List (S70), y_ = (x4_1 ++ [(⟨(rd_T70 x12_1 x14_1).f0, (rd_T70 x12_1 x14_1).f1⟩ : S70)]) := ⟨_, rfl⟩
           replace H : (impl_union.l0 k1 y201 x12_1 (t192.length : Int) (wrap64 (x14_1 + 1))) = some r := by first | (rw [hy201]; with_reducible exact H) | (have H2_ := (Option.bind_some _ _).symm.trans H; rw [hy201]; with_reducible exact H2_) | (have H2_ := (Option.bind_some _ _).symm.trans H; with_reducible exact H2_) | with_reducible exact H | (rw [hy201]; exact H) | exact H
           have Ny201 := Aside0.mk hy201;clear hy201;have H' := Aside0.mk H;clear H;have p196 : 0 ≤ (x14_1 : Int) := of_decide_eq_true Z6x5;have q196 : x14_1 < (x12_1.length : Int) := of_decide_eq_true Z6x5;obtain ⟨ad196, e196, hx196_0, hx196_1⟩ := at_T70 (Kd.R_reads' HO_12.out).2.2 x14_1 p196 q196
           cases e196
           replace p196 := eq_true p196;replace q196 := eq_true q196
           try go_wp2_with (first | ((with_reducible refine gate_dst (N := 6) rfl ?_); refine box_event ?hg (N := 6) ?hd (cs := #[.int .i64 0, .int .i64 0]) (t := 70) ?hr ?_; (case hd => rfl); (case hg => rfl); (case hr => first | (go_simp; done) | (go_simp; rfl)); intro gb197 hg w25 hbox hb; have n0_ := Aside0.mk (Kd.R_below (Kd.R_elderB Z6x7 gb197 (Nat.le_of_eq hg.symm)) hb); have n1_ := Aside0.mk (Kd.R_below (Kd.R_elderB Z6x6 gb197 (Nat.le_of_eq hg.symm)) hb); have n2_ := Aside0.mk (below_step Z6x0 hb); have n3_ := Aside0.mk (hbox); have n4_ := Aside0.mk ((by rw [hg]; exact (below_size Z6x0) : w.heap.size ≤ gb197)); have n5_ := Aside0.mk ((by rw [hg]; exact (below_size Z6x0) : w.heap.size ≤ gb197)); clear HO_4; clear HO_12; clear HB; have HO_4 := n0_; have HO_12 := n1_; have HB := n2_; have BK197 := n3_; have GW197 := n4_; have GE197 := n5_; clear n0_ n1_ n2_ n3_ n4_ n5_; clear hb hbox hg; have hcz26_0 : w25.cell? ⟨gb197, 0, none⟩ = some (.int .i64 0) := (blk_cell BK197.out 0).trans rfl; have hcz26_1 : w25.cell? ⟨gb197, 1, none⟩ = some (.int .i64 0) := (blk_cell BK197.out 1).trans rfl; have hfz26_0 := blk_frozen BK197.out 0; have hfz26_1 := blk_frozen BK197.out 1; obtain ⟨Ao27, co27, eo27⟩ := Kd.R_slice HO_4.out; subst eo27))
           have n0_ : Aside0 (Kd.R k70 70 ((w25.setCell ⟨gb197, 0, none⟩ (.int .i64 ((rd_T70 x12_1 x14_1).f0))).setCell ⟨gb197, 1, none⟩ (.int .i64 ((rd_T70 x12_1 x14_1).f1))) w.heap.size (fun k_ => some k_ ≠ (.slice (some ad196) x12_1.length co5 : Value).ownBlock ∧ k_ ≠ gb197) (.slice Ao27 x4_1.length co27) x4_1) := ⟨Z6x4⟩;have n1_ : Aside0 (Kd.R k70 70 ((w25.setCell ⟨gb197, 0, none⟩ (.int .i64 ((rd_T70 x12_1 x14_1).f0))).setCell ⟨gb197, 1, none⟩ (.int .i64 ((rd_T70 x12_1 x14_1).f1))) w.heap.size (fun k_ => some k_ ≠ (.slice Ao27 x4_1.length co27 : Value).ownBlock ∧ k_ ≠ gb197) (.slice (some ad196) x12_1.length co5) x12_1) := ⟨Z6x3⟩;have n2_ : Aside0 (((w25.setCell ⟨gb197, 0, none⟩ (.int .i64 ((rd_T70 x12_1 x14_1).f0))).setCell ⟨gb197, 1, none⟩ (.int .i64 ((rd_T70 x12_1 x14_1).f1))).heap[gb197]? = some (.cells #[.int .i64 ((rd_T70 x12_1 x14_1).f0), .int .i64 ((rd_T70 x12_1 x14_1).f1)] 70 (0, 0))) := ⟨Z6x2⟩;have n3_ : Aside0 (Below w.heap.size w ((w25.setCell ⟨gb197, 0, none⟩ (.int .i64 ((rd_T70 x12_1 x14_1).f0))).setCell ⟨gb197, 1, none⟩ (.int .i64 ((rd_T70 x12_1 x14_1).f1)))) := ⟨Z6x1⟩
           (try clear HO_4)
           (try clear HO_12)
           (try clear BK197)
           (try clear HB)
           generalize ((w25.setCell ⟨gb197, 0, none⟩ (.int .i64 ((rd_T70 x12_1 x14_1).f0))).setCell ⟨gb197, 1, none⟩ (.int .i64 ((rd_T70 x12_1 x14_1).f1))) = w28 at n0_ n1_ n2_ n3_ ⊢;have HO_4 := n0_;have HO_12 := n1_;have BK197 := n2_;have HB := n3_;clear n0_ n1_ n2_ n3_;have n0_ := Aside0.mk (Kd.R_drew HO_4.out);have n1_ := Aside0.mk (Kd.R_drew HO_12.out);have n2_ := Aside0.mk (blk_drew BK197.out);have n3_ := Aside0.mk (below_drew1 HB.out);clear HO_4;clear HO_12;clear BK197;clear HB;have HO_4 := n0_;have HO_12 := n1_;have BK197 := n2_;have HB := n3_;clear n0_ n1_ n2_ n3_;have p198 : 0 ≤ ((ji11) : Int) := of_decide_eq_true Z6x5;have q198 : (ji11) < (x4_1.length : Int) := of_decide_eq_true Z6x5;obtain ⟨ad198, e198, hx198_0, hx198_1⟩ := at_T70 (Kd.R_reads' HO_4.out).2.2 (ji11) p198 q198
           cases e198
           replace p198 := eq_true p198;replace q198 := eq_true q198;refine start_ (n := 14) (S := fun w' => w'.cell? ⟨gb197, 0, none⟩ = some (.int .i64 ((rd_T70 x12_1 x14_1).f0)) ∧ w'.cell? ⟨gb197, 1, none⟩ = some (.int .i64 ((rd_T70 x12_1 x14_1).f1)) ∧ w'.cell? (ad198.add (((ji11)).toNat * 2)) = some (.int .i64 ((rd_T70 x4_1 (ji11)).f0)) ∧ w'.cell? ⟨(ad198.add (((ji11)).toNat * 2)).block, (ad198.add (((ji11)).toNat * 2)).off + 1, none⟩ = some (.int .i64 ((rd_T70 x4_1 (ji11)).f1))) (ds := []) #[false, false, false, false, false, false, false, false, false, false, false, false, false, false] (by kernel_rfl) rfl rfl ⟨(blk_cell BK197.out 0).trans rfl, (blk_cell BK197.out 1).trans rfl, hx198_0, hx198_1⟩ (fun hHeld => ?_); refine with_tabW impl_union.tab8 impl_union.bits8 (fun HT_ HW_ => ?_);generalize w28.drew = w29 at HO_4 HO_12 BK197 HB hx198_0 hx198_1 hHeld ⊢;refine pure_ (i := 0) (N := some 20) (v := ?_) (a' := ?_) #[true, false, false, false, false, false, false, false, false, false, false, false, false, false] rfl rfl (any_of HT_.out (by kernel_rfl)) (fun _ _ _ h => h) (Or.inl ⟨by rfl, ?_⟩) ?_ ?_
           rotate_left
           ·intro w'
            go_simp
            with_reducible rfl
           rotate_left
           ·simp only [czP]
            rfl
           refine pure_ (i := 1) (N := some 21) (v := ?_) (a' := ?_) #[true, true, false, false, false, false, false, false, false, false, false, false, false, false] rfl rfl (any_of HT_.out (by kernel_rfl)) (fun _ _ _ h => h) (Or.inl ⟨by rfl, ?_⟩) ?_ ?_
           rotate_left
           ·intro w'
            go_simp
            with_reducible rfl
           rotate_left
           ·simp only [czP]
            rfl
           refine pure_ (i := 2) (N := some 22) (v := ?_) (a' := ?_) #[true, true, true, false, false, false, false, false, false, false, false, false, false, false] rfl rfl (any_of HT_.out (by kernel_rfl)) (fun _ _ _ h => h) (Or.inl ⟨by rfl, ?_⟩) ?_ ?_
           rotate_left
           ·intro w'
            go_simp
            with_reducible rfl
           rotate_left
           ·simp only [czP]
            rfl
           refine pure_ (i := 3) (N := some 23) (v := ?_) (a' := ?_) #[true, true, true, true, false, false, false, false, false, false, false, false, false, false] rfl rfl (any_of HT_.out (by kernel_rfl)) (fun _ _ _ h => h) (Or.inl ⟨by rfl, ?_⟩) ?_ ?_
           rotate_left
           ·intro w'
            go_simp
            with_reducible rfl
           rotate_left
           ·simp only [czP]
            rfl
           refine pure_ (i := 5) (N := some 25) (v := ?_) (a' := ?_) #[true, true, true, true, false, true, false, false, false, false, false, false, false, false] rfl rfl (any_of HT_.out (by kernel_rfl)) (fun _ _ _ h => h) (Or.inl ⟨by rfl, ?_⟩) ?_ ?_
           rotate_left
           ·intro w'
            go_simp
            with_reducible rfl
           rotate_left
           ·simp only [czP]
            rfl
           refine pure_ (i := 6) (N := some 26) (v := ?_) (a' := ?_) #[true, true, true, true, false, true, true, false, false, false, false, false, false, false] rfl rfl (any_of HT_.out (by kernel_rfl)) (fun _ _ _ h => h) (Or.inl ⟨by rfl, ?_⟩) ?_ ?_
           rotate_left
           ·intro w'
            go_simp
            with_reducible rfl
           rotate_left
           ·simp only [czP]
            rfl
           refine pure_ (i := 7) (N := some 27) (v := ?_) (a' := ?_) #[true, true, true, true, false, true, true, true, false, false, false, false, false, false] rfl rfl (any_of HT_.out (by kernel_rfl)) (fun _ _ _ h => h) (Or.inl ⟨by rfl, ?_⟩) ?_ ?_
           rotate_left
           ·intro w'
            go_simp
            with_reducible rfl
           rotate_left
           ·simp only [czP]
            rfl
           refine pure_ (i := 8) (N := some 28) (v := ?_) (a' := ?_) #[true, true, true, true, false, true, true, true, true, false, false, false, false, false] rfl rfl (any_of HT_.out (by kernel_rfl)) (fun _ _ _ h => h) (Or.inl ⟨by rfl, ?_⟩) ?_ ?_
           rotate_left
           ·intro w'
            go_simp
            with_reducible rfl
           rotate_left
           ·simp only [czP]
            rfl
           refine pure_ (i := 9) (N := some 29) (v := ?_) (a' := ?_) #[true, true, true, true, false, true, true, true, true, true, false, false, false, false] rfl rfl (any_of HT_.out (by kernel_rfl)) (fun _ _ _ h => h) (Or.inl ⟨by rfl, ?_⟩) ?_ ?_
           rotate_left
           ·intro w'
            go_simp
            with_reducible rfl
           rotate_left
           ·simp only [czP]
            rfl
           refine take_ (i := 4) (N := some 24) (v := ?_) (a' := ?_) #[true, true, true, true, true, true, true, true, true, true, false, false, false, false] rfl rfl (take_ofW HT_.out HW_.out (by kernel_rfl)) (fun _ _ _ h => h) (Or.inl ⟨by rfl, ?_⟩) hHeld ?_ ?_
           rotate_left
           ·rintro w' ⟨s0, s1, s2, s3⟩
            go_simp
            with_reducible rfl
           rotate_left
           ·simp only [czP]
            rfl
           refine take_ (i := 10) (N := some 30) (v := ?_) (a' := ?_) #[true, true, true, true, true, true, true, true, true, true, true, false, false, false] rfl rfl (take_ofW HT_.out HW_.out (by kernel_rfl)) (fun _ _ _ h => h) (Or.inl ⟨by rfl, ?_⟩) hHeld ?_ ?_
           rotate_left
           ·rintro w' ⟨s0, s1, s2, s3⟩
            go_simp
            with_reducible rfl
           rotate_left
           ·simp only [czP]
            rfl
           refine pure_ (i := 11) (N := some 31) (v := ?_) (a' := ?_) #[true, true, true, true, true, true, true, true, true, true, true, true, false, false] rfl rfl (any_of HT_.out (by kernel_rfl)) (fun _ _ _ h => h) (Or.inl ⟨by rfl, ?_⟩) ?_ ?_
           rotate_left
           ·intro w'
            go_simp
            with_reducible rfl
           rotate_left
           ·simp only [czP]
            rfl
           refine pure_ (i := 12) (N := some 32) (v := ?_) (a' := ?_) #[true, true, true, true, true, true, true, true, true, true, true, true, true, false] rfl rfl (any_of HT_.out (by kernel_rfl)) (fun _ _ _ h => h) (Or.inl ⟨by rfl, ?_⟩) ?_ ?_
           rotate_left
           ·intro w'
            go_simp
            with_reducible rfl
           rotate_left
           ·simp only [czP]
            rfl
           refine pure_ (i := 13) (N := some 33) (v := ?_) (a' := ?_) #[true, true, true, true, true, true, true, true, true, true, true, true, true, true] rfl rfl (any_of HT_.out (by kernel_rfl)) (fun _ _ _ h => h) (Or.inl ⟨by rfl, ?_⟩) ?_ ?_
           rotate_left
           ·intro w'
            go_simp
            with_reducible rfl
           rotate_left
           ·simp only [czP]
            rfl
           refine done_ (done_of HT_.out (by kernel_rfl)) ?_;have hcz30_0 : w29.cell? ⟨gb197, 0, none⟩ = some (.int .i64 ((rd_T70 x12_1 x14_1).f0)) := (blk_cell BK197.out 0).trans rfl;have hcz30_1 : w29.cell? ⟨gb197, 1, none⟩ = some (.int .i64 ((rd_T70 x12_1 x14_1).f1)) := (blk_cell BK197.out 1).trans rfl;have hfz30_0 := blk_frozen BK197.out 0;have hfz30_1 := blk_frozen BK197.out 1
           try go_wp2_with (first | ((with_reducible refine gate_builtin (b := .append) (xs := #[.tmp 48, .tmp 50]) rfl ?_); at_builtin; refine Kd.R_append k70 (w0 := w) w.heap.size rfl (.tmp 48) (.tmp 50) 32 70 (.agg #[(.int .i64 0), (.int .i64 0)]) 16 rfl Try.underlying32 info70 rfl (by decide) (by omega) (.slice (some ad198) x4_1.length co27) x4_1 (⟨(rd_T70 x12_1 x14_1).f0, (rd_T70 x12_1 x14_1).f1⟩ : S70) [.int .i64 ((rd_T70 x12_1 x14_1).f0), .int .i64 ((rd_T70 x12_1 x14_1).f1)] (fun k_ => some k_ ≠ (.slice (some ad196) x12_1.length co5 : Value).ownBlock ∧ k_ ≠ gb197) (fun _ => False) rfl rfl ?aP (fun _ hk => hk.elim) ?aF ?aO ?aB ?aS ?aL ?_; (case aP => exact k70_mkM _ _ _ (⟨(rd_T70 x12_1 x14_1).f0, (rd_T70 x12_1 x14_1).f1⟩ : S70)); (case aB => exact Z6x1); (case aF => exact (fun k_ hk => ⟨Kd.fresh' (Kd.R_lt Z6x6) k_ hk, Kd.freshB (g := gb197) (o := .cells #[.int .i64 ((rd_T70 x12_1 x14_1).f0), .int .i64 ((rd_T70 x12_1 x14_1).f1)] 70 (0, 0)) Z6x8 k_ hk⟩)); (case aO => exact Z6x7); (case aS => exact (below_size Z6x1)); (case aL => have := LMc24.out; omega); intro v202 w31 ho hb hg hat; rw [← Ny201.out] at ho; have n0_ := Aside0.mk (Kd.R_after (ok := (fun k_ => k_ ≠ gb197)) (by (with_reducible repeat (first | apply Kd.R_alloc | apply Kd.R_drewN | apply Kd.R_drew)); exact Kd.R_mono HO_12.out (fun _ hk => ⟨hk.2, hk.1⟩)) hg hat); have n1_ := Aside0.mk (blk_grown (g := gb197) (o := .cells #[.int .i64 ((rd_T70 x12_1 x14_1).f0), .int .i64 ((rd_T70 x12_1 x14_1).f1)] 70 (0, 0)) Z6x8 hg (Kd.R_away HO_4.out (fun _ hk => hk.2))); have n2_ := Aside0.mk (hb); have n3_ := Aside0.mk (ho); clear HO_12; clear BK197; clear HB; clear HO_4; have HO_12 := n0_; have BK197 := n1_; have HB := n2_; have HO203 := n3_; clear n0_ n1_ n2_ n3_; clear ho hb hg hat))
           (try simp only [← hl12_1])
           go_roundg k1
           case measure => have := HK1.out; omega
           case rel => exact ⟨(y201), (x12_1), (wrap64 (x14_1 + 1)), (by first | rfl | (simp; done) | (simp [*]; done)), H', ⟨by have := HK1.out; omega⟩, ⟨by (try simp only [hl12_1]); (with_reducible repeat (first | apply Kd.R_alloc | apply Kd.R_drewN | apply Kd.R_drew)); exact Kd.R_mono HO203.out (fun _ hk => hk.1)⟩, ⟨by (try simp only [hl12_1]); (with_reducible repeat (first | apply Kd.R_alloc | apply Kd.R_drewN | apply Kd.R_drew)); exact Kd.R_mono HO_12.out (fun _ hk => hk.2)⟩, ⟨Z6x1⟩⟩
          ·rw [if_neg c24] at H
           exact absurd H (by simp)
        ·rw [if_neg c13] at H
         exact absurd H (by simp)
       ·rw [if_neg c12] at H
        exact absurd H (by simp)
      ·rw [if_neg c10] at H
       have c10b0 : decide (0 < (x4_1.length : Int)) = false := decide_eq_false c10
       (try (have c10b1 : decide (0 < x4_1.length) = false := decide_eq_false (by omega)))
       (try (have c10b2 : (0 < x4_1.length) = False := eq_false (by omega)))
       have c10b3 : decide (0 < x4_1.length) = false := decide_eq_false (by omega);clear c10
       by_cases c32 : x4_1.length < 8796093022208
       ·rw [if_pos c32] at H
        have LMc32 := Aside0.mk c32;clear c32;obtain ⟨y204, hy204⟩ : ∃ y_ : List (S70), y_ = (x4_1 ++ [(⟨(rd_T70 x12_1 x14_1).f0, (rd_T70 x12_1 x14_1).f1⟩ : S70)]) := ⟨_, rfl⟩
        replace H : (impl_union.l0 k1 y204 x12_1 (t192.length : Int) (wrap64 (x14_1 + 1))) = some r := by first | (rw [hy204]; with_reducible exact H) | (have H2_ := (Option.bind_some _ _).symm.trans H; rw [hy204]; with_reducible exact H2_) | (have H2_ := (Option.bind_some _ _).symm.trans H; with_reducible exact H2_) | with_reducible exact H | (rw [hy204]; exact H) | exact H
        have Ny204 := Aside0.mk hy204;clear hy204;have H' := Aside0.mk H;clear H;have p196 : 0 ≤ (x14_1 : Int) := of_decide_eq_true Z6x5;have q196 : x14_1 < (x12_1.length : Int) := of_decide_eq_true Z6x5;obtain ⟨ad196, e196, hx196_0, hx196_1⟩ := at_T70 (Kd.R_reads' HO_12.out).2.2 x14_1 p196 q196
        cases e196
        replace p196 := eq_true p196;replace q196 := eq_true q196
        try go_wp2_with (first | ((with_reducible refine gate_dst (N := 6) rfl ?_); refine box_event ?hg (N := 6) ?hd (cs := #[.int .i64 0, .int .i64 0]) (t := 70) ?hr ?_; (case hd => rfl); (case hg => rfl); (case hr => first | (go_simp; done) | (go_simp; rfl)); intro gb197 hg w33 hbox hb; have n0_ := Aside0.mk (Kd.R_below (Kd.R_elderB Z6x7 gb197 (Nat.le_of_eq hg.symm)) hb); have n1_ := Aside0.mk (Kd.R_below (Kd.R_elderB Z6x6 gb197 (Nat.le_of_eq hg.symm)) hb); have n2_ := Aside0.mk (below_step Z6x0 hb); have n3_ := Aside0.mk (hbox); have n4_ := Aside0.mk ((by rw [hg]; exact (below_size Z6x0) : w.heap.size ≤ gb197)); have n5_ := Aside0.mk ((by rw [hg]; exact (below_size Z6x0) : w.heap.size ≤ gb197)); clear HO_4; clear HO_12; clear HB; have HO_4 := n0_; have HO_12 := n1_; have HB := n2_; have BK197 := n3_; have GW197 := n4_; have GE197 := n5_; clear n0_ n1_ n2_ n3_ n4_ n5_; clear hb hbox hg; have hcz34_0 : w33.cell? ⟨gb197, 0, none⟩ = some (.int .i64 0) := (blk_cell BK197.out 0).trans rfl; have hcz34_1 : w33.cell? ⟨gb197, 1, none⟩ = some (.int .i64 0) := (blk_cell BK197.out 1).trans rfl; have hfz34_0 := blk_frozen BK197.out 0; have hfz34_1 := blk_frozen BK197.out 1; obtain ⟨Ao35, co35, eo35⟩ := Kd.R_slice HO_4.out; subst eo35))
        have n0_ : Aside0 (Kd.R k70 70 ((w33.setCell ⟨gb197, 0, none⟩ (.int .i64 ((rd_T70 x12_1 x14_1).f0))).setCell ⟨gb197, 1, none⟩ (.int .i64 ((rd_T70 x12_1 x14_1).f1))) w.heap.size (fun k_ => some k_ ≠ (.slice (some ad196) x12_1.length co5 : Value).ownBlock ∧ k_ ≠ gb197) (.slice Ao35 x4_1.length co35) x4_1) := ⟨Z6x4⟩;have n1_ : Aside0 (Kd.R k70 70 ((w33.setCell ⟨gb197, 0, none⟩ (.int .i64 ((rd_T70 x12_1 x14_1).f0))).setCell ⟨gb197, 1, none⟩ (.int .i64 ((rd_T70 x12_1 x14_1).f1))) w.heap.size (fun k_ => some k_ ≠ (.slice Ao35 x4_1.length co35 : Value).ownBlock ∧ k_ ≠ gb197) (.slice (some ad196) x12_1.length co5) x12_1) := ⟨Z6x3⟩;have n2_ : Aside0 (((w33.setCell ⟨gb197, 0, none⟩ (.int .i64 ((rd_T70 x12_1 x14_1).f0))).setCell ⟨gb197, 1, none⟩ (.int .i64 ((rd_T70 x12_1 x14_1).f1))).heap[gb197]? = some (.cells #[.int .i64 ((rd_T70 x12_1 x14_1).f0), .int .i64 ((rd_T70 x12_1 x14_1).f1)] 70 (0, 0))) := ⟨Z6x2⟩;have n3_ : Aside0 (Below w.heap.size w ((w33.setCell ⟨gb197, 0, none⟩ (.int .i64 ((rd_T70 x12_1 x14_1).f0))).setCell ⟨gb197, 1, none⟩ (.int .i64 ((rd_T70 x12_1 x14_1).f1)))) := ⟨Z6x1⟩
        (try clear HO_4)
        (try clear HO_12)
        (try clear BK197)
        (try clear HB)
        generalize ((w33.setCell ⟨gb197, 0, none⟩ (.int .i64 ((rd_T70 x12_1 x14_1).f0))).setCell ⟨gb197, 1, none⟩ (.int .i64 ((rd_T70 x12_1 x14_1).f1))) = w36 at n0_ n1_ n2_ n3_ ⊢;have HO_4 := n0_;have HO_12 := n1_;have BK197 := n2_;have HB := n3_;clear n0_ n1_ n2_ n3_;have n0_ := Aside0.mk (Kd.R_drew HO_4.out);have n1_ := Aside0.mk (Kd.R_drew HO_12.out);have n2_ := Aside0.mk (blk_drew BK197.out);have n3_ := Aside0.mk (below_drew1 HB.out);clear HO_4;clear HO_12;clear BK197;clear HB;have HO_4 := n0_;have HO_12 := n1_;have BK197 := n2_;have HB := n3_;clear n0_ n1_ n2_ n3_;refine start_ (n := 14) (S := fun w' => True) (ds := []) #[false, false, false, false, false, false, false, false, false, false, false, false, false, false] (by kernel_rfl) rfl rfl trivial (fun hHeld => ?_); refine with_tabW impl_union.tab8 impl_union.bits8 (fun HT_ HW_ => ?_);generalize w36.drew = w37 at HO_4 HO_12 BK197 HB hHeld ⊢;refine pure_ (i := 0) (N := some 20) (v := ?_) (a' := ?_) #[true, false, false, false, false, false, false, false, false, false, false, false, false, false] rfl rfl (any_of HT_.out (by kernel_rfl)) (fun _ _ _ h => h) (Or.inl ⟨by rfl, ?_⟩) ?_ ?_
        rotate_left
        ·intro w'
         go_simp
         with_reducible rfl
        rotate_left
        ·simp only [czP]
         rfl
        refine pure_ (i := 1) (N := some 21) (v := ?_) (a' := ?_) #[true, true, false, false, false, false, false, false, false, false, false, false, false, false] rfl rfl (any_of HT_.out (by kernel_rfl)) (fun _ _ _ h => h) (Or.inl ⟨by rfl, ?_⟩) ?_ ?_
        rotate_left
        ·intro w'
         go_simp
         with_reducible rfl
        rotate_left
        ·simp only [czP]
         rfl
        refine pure_ (i := 2) (N := some 22) (v := ?_) (a' := ?_) #[true, true, true, false, false, false, false, false, false, false, false, false, false, false] rfl rfl (any_of HT_.out (by kernel_rfl)) (fun _ _ _ h => h) (Or.inl ⟨by rfl, ?_⟩) ?_ ?_
        rotate_left
        ·intro w'
         go_simp
         with_reducible rfl
        rotate_left
        ·simp only [czP]
         rfl
        refine pure_ (i := 3) (N := some 23) (v := undef) (a' := ?_) #[true, true, true, true, false, false, false, false, false, false, false, false, false, false] rfl rfl (any_of HT_.out (by kernel_rfl)) (fun _ _ _ h => h) (Or.inr ⟨by rfl, rfl⟩) ?_ ?_
        rotate_left
        ·simp only [czP]
         rfl
        refine pure_ (i := 4) (N := some 24) (v := undef) (a' := ?_) #[true, true, true, true, true, false, false, false, false, false, false, false, false, false] rfl rfl (any_of HT_.out (by kernel_rfl)) (fun _ _ _ h => h) (Or.inr ⟨by rfl, rfl⟩) ?_ ?_
        rotate_left
        ·simp only [czP]
         rfl
        refine pure_ (i := 5) (N := some 25) (v := undef) (a' := ?_) #[true, true, true, true, true, true, false, false, false, false, false, false, false, false] rfl rfl (any_of HT_.out (by kernel_rfl)) (fun _ _ _ h => h) (Or.inr ⟨by rfl, rfl⟩) ?_ ?_
        rotate_left
        ·simp only [czP]
         rfl
        refine pure_ (i := 6) (N := some 26) (v := undef) (a' := ?_) #[true, true, true, true, true, true, true, false, false, false, false, false, false, false] rfl rfl (any_of HT_.out (by kernel_rfl)) (fun _ _ _ h => h) (Or.inr ⟨by rfl, rfl⟩) ?_ ?_
        rotate_left
        ·simp only [czP]
         rfl
        refine pure_ (i := 7) (N := some 27) (v := undef) (a' := ?_) #[true, true, true, true, true, true, true, true, false, false, false, false, false, false] rfl rfl (any_of HT_.out (by kernel_rfl)) (fun _ _ _ h => h) (Or.inr ⟨by rfl, rfl⟩) ?_ ?_
        rotate_left
        ·simp only [czP]
         rfl
        refine pure_ (i := 8) (N := some 28) (v := undef) (a' := ?_) #[true, true, true, true, true, true, true, true, true, false, false, false, false, false] rfl rfl (any_of HT_.out (by kernel_rfl)) (fun _ _ _ h => h) (Or.inr ⟨by rfl, rfl⟩) ?_ ?_
        rotate_left
        ·simp only [czP]
         rfl
        refine pure_ (i := 9) (N := some 29) (v := undef) (a' := ?_) #[true, true, true, true, true, true, true, true, true, true, false, false, false, false] rfl rfl (any_of HT_.out (by kernel_rfl)) (fun _ _ _ h => h) (Or.inr ⟨by rfl, rfl⟩) ?_ ?_
        rotate_left
        ·simp only [czP]
         rfl
        refine pure_ (i := 10) (N := some 30) (v := undef) (a' := ?_) #[true, true, true, true, true, true, true, true, true, true, true, false, false, false] rfl rfl (any_of HT_.out (by kernel_rfl)) (fun _ _ _ h => h) (Or.inr ⟨by rfl, rfl⟩) ?_ ?_
        rotate_left
        ·simp only [czP]
         rfl
        refine pure_ (i := 11) (N := some 31) (v := undef) (a' := ?_) #[true, true, true, true, true, true, true, true, true, true, true, true, false, false] rfl rfl (any_of HT_.out (by kernel_rfl)) (fun _ _ _ h => h) (Or.inr ⟨by rfl, rfl⟩) ?_ ?_
        rotate_left
        ·simp only [czP]
         rfl
        refine pure_ (i := 12) (N := some 32) (v := undef) (a' := ?_) #[true, true, true, true, true, true, true, true, true, true, true, true, true, false] rfl rfl (any_of HT_.out (by kernel_rfl)) (fun _ _ _ h => h) (Or.inr ⟨by rfl, rfl⟩) ?_ ?_
        rotate_left
        ·simp only [czP]
         rfl
        refine pure_ (i := 13) (N := some 33) (v := ?_) (a' := ?_) #[true, true, true, true, true, true, true, true, true, true, true, true, true, true] rfl rfl (any_of HT_.out (by kernel_rfl)) (fun _ _ _ h => h) (Or.inl ⟨by rfl, ?_⟩) ?_ ?_
        rotate_left
        ·intro w'
         go_simp
         with_reducible rfl
        rotate_left
        ·simp only [czP]
         rfl
        refine done_ (done_of HT_.out (by kernel_rfl)) ?_;have hcz38_0 : w37.cell? ⟨gb197, 0, none⟩ = some (.int .i64 ((rd_T70 x12_1 x14_1).f0)) := (blk_cell BK197.out 0).trans rfl;have hcz38_1 : w37.cell? ⟨gb197, 1, none⟩ = some (.int .i64 ((rd_T70 x12_1 x14_1).f1)) := (blk_cell BK197.out 1).trans rfl;have hfz38_0 := blk_frozen BK197.out 0;have hfz38_1 := blk_frozen BK197.out 1
        try go_wp2_with (first | ((with_reducible refine gate_builtin (b := .append) (xs := #[.tmp 48, .tmp 50]) rfl ?_); at_builtin; refine Kd.R_append k70 (w0 := w) w.heap.size rfl (.tmp 48) (.tmp 50) 32 70 (.agg #[(.int .i64 0), (.int .i64 0)]) 16 rfl Try.underlying32 info70 rfl (by decide) (by omega) (.slice Ao35 x4_1.length co35) x4_1 (⟨(rd_T70 x12_1 x14_1).f0, (rd_T70 x12_1 x14_1).f1⟩ : S70) [.int .i64 ((rd_T70 x12_1 x14_1).f0), .int .i64 ((rd_T70 x12_1 x14_1).f1)] (fun k_ => some k_ ≠ (.slice (some ad196) x12_1.length co5 : Value).ownBlock ∧ k_ ≠ gb197) (fun _ => False) rfl rfl ?aP (fun _ hk => hk.elim) ?aF ?aO ?aB ?aS ?aL ?_; (case aP => exact k70_mkM _ _ _ (⟨(rd_T70 x12_1 x14_1).f0, (rd_T70 x12_1 x14_1).f1⟩ : S70)); (case aB => exact Z6x1); (case aF => exact (fun k_ hk => ⟨Kd.fresh' (Kd.R_lt Z6x6) k_ hk, Kd.freshB (g := gb197) (o := .cells #[.int .i64 ((rd_T70 x12_1 x14_1).f0), .int .i64 ((rd_T70 x12_1 x14_1).f1)] 70 (0, 0)) Z6x8 k_ hk⟩)); (case aO => exact Z6x7); (case aS => exact (below_size Z6x1)); (case aL => have := LMc32.out; omega); intro v205 w39 ho hb hg hat; rw [← Ny204.out] at ho; have n0_ := Aside0.mk (Kd.R_after (ok := (fun k_ => k_ ≠ gb197)) (by (with_reducible repeat (first | apply Kd.R_alloc | apply Kd.R_drewN | apply Kd.R_drew)); exact Kd.R_mono HO_12.out (fun _ hk => ⟨hk.2, hk.1⟩)) hg hat); have n1_ := Aside0.mk (blk_grown (g := gb197) (o := .cells #[.int .i64 ((rd_T70 x12_1 x14_1).f0), .int .i64 ((rd_T70 x12_1 x14_1).f1)] 70 (0, 0)) Z6x8 hg (Kd.R_away HO_4.out (fun _ hk => hk.2))); have n2_ := Aside0.mk (hb); have n3_ := Aside0.mk (ho); clear HO_12; clear BK197; clear HB; clear HO_4; have HO_12 := n0_; have BK197 := n1_; have HB := n2_; have HO206 := n3_; clear n0_ n1_ n2_ n3_; clear ho hb hg hat))
        (try simp only [← hl12_1])
        go_roundg k1
        case measure => have := HK1.out; omega
        case rel => exact ⟨(y204), (x12_1), (wrap64 (x14_1 + 1)), (by first | rfl | (simp; done) | (simp [*]; done)), H', ⟨by have := HK1.out; omega⟩, ⟨by (try simp only [hl12_1]); (with_reducible repeat (first | apply Kd.R_alloc | apply Kd.R_drewN | apply Kd.R_drew)); exact Kd.R_mono HO206.out (fun _ hk => hk.1)⟩, ⟨by (try simp only [hl12_1]); (with_reducible repeat (first | apply Kd.R_alloc | apply Kd.R_drewN | apply Kd.R_drew)); exact Kd.R_mono HO_12.out (fun _ hk => hk.2)⟩, ⟨Z6x1⟩⟩
       ·rw [if_neg c32] at H
        exact absurd H (by simp)
     ·rw [if_neg c9] at H
      exact absurd H (by simp)
    ·rw [if_neg c8] at H
     exact absurd H (by simp)
   ·rw [if_neg c7] at H
    have c7b0 : decide (x14_1 < (t192.length : Int)) = false := decide_eq_false c7
    (try (have c7b1 : decide (x14_1 < (x12_1.length : Int)) = false := by rw [← hl12_1]; exact c7b0))
    clear c7;obtain rfl := Option.some.inj H;simp only [Option.some.injEq, Prod.mk.injEq] at H;obtain ⟨rfl⟩ := H
    go_wp2
    go_ret
    exact ⟨_, by first | rfl | (simp [errW_none, errW_some] <;> rfl) | (simp [*, errW_none, errW_some] <;> rfl), by (with_reducible repeat (first | apply Kd.R_alloc | apply Kd.R_drewN | apply Kd.R_drew)); exact Kd.R_mono HO_4.out (fun _ hk => trivial), Z6x0⟩

end Go.Proofs.Ytdciagkholijlaa.PFnExactEntryAdd
