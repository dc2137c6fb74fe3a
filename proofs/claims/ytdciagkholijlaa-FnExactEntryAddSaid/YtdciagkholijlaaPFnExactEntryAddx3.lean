-- Written by this session's changed copy of the kit's printer (wip/patch_print.py): not the kit's own print.
import Derived.Test.YtdciagkholijlaaPFnExactEntryAddx0
import Derived.Test.YtdciagkholijlaaPFnExactEntryAddx2
namespace Go.Proofs.Ytdciagkholijlaa.PFnExactEntryAdd
open Go.RowKit Go.Proofs.YtdciagkholijlaaW.PrintWords Go.Proofs.YtdciagkholijlaaW.PrintLast Go.Proofs.YtdciagkholijlaaW.PrintMore
attribute [local go_sem] max2_int min2_int max_two min_two max_three min_three max_four min_four   -- for this text's walks alone
set_option linter.unusedVariables false
set_option linter.unusedSimpArgs false
theorem Z3x0 {p : Prop} (h : p := by repeat (first | (with_reducible first | exact HB.out | apply below_alloc | apply pw_below_drewN | apply below_drew1) | exact HB.out)) : p := h
theorem Z3x1 {p : Prop} (h : p := by first | (rw [add_block]; exact hn148_0) | (show (Addr.add _ _).block ≠ _; rw [add_block]; exact hn148_0) | exact hn148_0) : p := h
theorem Z3x2 {p : Prop} (h : p := by first | (rw [add_block]; exact hn148_1) | (show (Addr.add _ _).block ≠ _; rw [add_block]; exact hn148_1) | exact hn148_1) : p := h
theorem Z3x3 {p : Prop} (h : p := by repeat (first | (with_reducible first | exact HB.out | apply below_alloc | apply pw_below_drewN | apply below_drew1 | refine below_set ?_ GE152.out) | exact HB.out)) : p := h
theorem Z3x4 {p : Prop} (h : p := by first | (with_reducible assumption) | assumption) : p := h
theorem Z3x5 {p : Prop} (h : p := by have := World.block_lt_of_cell? _ _ hx148_0; first | rwa [add_block] at this | exact this) : p := h
theorem Z3x6 {p : Prop} (h : p := by rw [hg]; exact (below_size Z3x0)) : p := h
theorem Z3x7 {p : Prop} (h : p := by repeat (first | (with_reducible first | exact HB.out | apply below_alloc | apply pw_below_drewN | apply below_drew1 | refine below_set ?_ GE145.out) | exact HB.out)) : p := h
theorem Z3x8 {p : Prop} (h : p := by (with_reducible repeat (first | refine blk_drewN ?_ _ | refine blk_drew ?_ | refine blk_alloc ?_ _)); exact BK152.out) : p := h
theorem Z3x9 {p : Prop} (h : p := by first | rfl | (simp [errW_none, errW_some] <;> rfl) | (simp [*, errW_none, errW_some] <;> rfl)) : p := h

def impl_SetOk.l0 : Nat → List (S70) → List (S70) → Int → Int → Option (Bool)
 | 0, _, _, _, _ => none
 | k + 1, x0, x5, x6, x7 => if x7 < x6 then (if 0 ≤ x7 then (if x7 < (x5.length : Int) then ((impl_within.f ((rd_T70 x5 x7).f0) 0 9999).bind fun t146 => (if t146 = true then ((impl_within.f ((rd_T70 x5 x7).f1) ((rd_T70 x5 x7).f0) 9999).bind fun t147 => (if t147 = true then (if x7 > 0 then (if 0 ≤ (wrap64 (x7 - 1)) then (if (wrap64 (x7 - 1)) < (x0.length : Int) then (if ((rd_T70 x5 x7).f0) ≤ (wrap64 (((rd_T70 x0 (wrap64 (x7 - 1))).f1) + 1)) then (some false) else (impl_SetOk.l0 k x0 x5 x6 (wrap64 (x7 + 1)))) else (none)) else (none)) else (impl_SetOk.l0 k x0 x5 x6 (wrap64 (x7 + 1)))) else (some false))) else (some false))) else (none)) else (none)) else (some true)
def impl_SetOk.f (k : Nat) (l0 : List (S70)) : Option (Bool) := impl_SetOk.l0 k l0 l0 (l0.length : Int) 0
theorem impl_SetOk.mono_l : ∀ k, (∀ y0 y1 y2 y3, LeO (impl_SetOk.l0 k y0 y1 y2 y3) (impl_SetOk.l0 (k + 1) y0 y1 y2 y3))
 | 0 => fun _ _ _ _ r h => by simp [impl_SetOk.l0] at h
 | k + 1 => by
  have ih0 := impl_SetOk.mono_l k
  ·intro y0 y1 y2 y3
   unfold impl_SetOk.l0
   repeat' first
   | (with_reducible exact ih0 _ _ _ _)
   | (with_reducible exact LeO.refl _)
   | (with_reducible exact LeO.none _)
   | (with_reducible refine LeO.ite ?_ ?_)
   | (with_reducible refine LeO.bind ?_ (fun _ => ?_))
   | exact ih0 _ _ _ _
   | exact LeO.none _
   | refine LeO.ite ?_ ?_
   | refine LeO.bind ?_ (fun _ => ?_)
theorem impl_SetOk.mono : ∀ a0 k, LeO (impl_SetOk.f k a0) (impl_SetOk.f (k + 1) a0) := by
 intro a0 k
 have ih0 := impl_SetOk.mono_l k
 unfold impl_SetOk.f
 repeat' first
   | (with_reducible exact ih0 _ _ _ _)
   | (with_reducible exact LeO.refl _)
   | (with_reducible exact LeO.none _)
   | (with_reducible refine LeO.ite ?_ ?_)
   | (with_reducible refine LeO.bind ?_ (fun _ => ?_))
   | exact ih0 _ _ _ _
   | exact LeO.none _
   | refine LeO.ite ?_ ?_
   | refine LeO.bind ?_ (fun _ => ?_)
set_option maxHeartbeats 8000000 in
set_option maxRecDepth 100000 in
theorem impl_SetOk.calls (k : Nat) (A0 : Option Addr) (c0 : Nat) (l0 : List (S70)) (r : Bool) (w : World) (hr0 : Kd.C k70 w A0 l0.length l0) (hc0 : l0.length ≤ c0) (h : impl_SetOk.f k l0 = some r) :
  Calls Try.prog 43 #[.slice A0 l0.length c0] w fun e w' => e = .returned (.bool r) ∧ Below w.heap.size w w' := by
 have hu70 := Try.underlying70
 have HR0 := Aside0.mk hr0
 have HC0 := Aside0.mk hc0
 clear hr0 hc0
 have HB := Aside0.mk (Below.refl w.heap.size w)
 have H : (impl_SetOk.l0 k l0 l0 (l0.length : Int) 0) = some r := h
 clear h
 have H' := Aside0.mk H
 clear H
 go_enter Try.func43, Try.ntmps43
 go_wp2
 repeat (go_quiet (fail); try go_wp2)
 go_loopg [7] k (fun kq v7 w' => ∃ (x7_1 : Int), v7 = .int .i64 x7_1 ∧ Aside0 (impl_SetOk.l0 kq l0 l0 (l0.length : Int) x7_1 = some r) ∧ Aside0 (kq ≤ k) ∧ Aside0 (Below w.heap.size w w'))
 case atStart => exact ⟨(0), (by first | rfl | (simp; done) | (simp [*]; done)), H', ⟨Nat.le_refl _⟩, ⟨Z3x0⟩⟩
 case round =>
  clear H'
  obtain ⟨x7_1, rfl, HA, HK1, HB⟩ := hrel
  cases gk with
  | zero => exact absurd HA.out (by simp [impl_SetOk.l0])
  | succ k1 =>
   have H := HA.out
   clear HA
   simp only [impl_SetOk.l0] at H
   by_cases c2 : x7_1 < (l0.length : Int)
   ·rw [if_pos c2] at H
    have c2b0 : decide (x7_1 < (l0.length : Int)) = true := decide_eq_true c2;clear c2
    by_cases c3 : 0 ≤ x7_1
    ·rw [if_pos c3] at H
     have c3b0 : decide (0 ≤ x7_1) = true := decide_eq_true c3;clear c3
     by_cases c4 : x7_1 < (l0.length : Int)
     ·rw [if_pos c4] at H
      have c4b0 : decide (x7_1 < (l0.length : Int)) = true := decide_eq_true c4;clear c4;replace H := Option.bind_eq_some_iff.mp H;obtain ⟨t146, A50, H⟩ := H;replace H : (if t146 = true then ((impl_within.f ((rd_T70 l0 x7_1).f1) ((rd_T70 l0 x7_1).f0) 9999).bind fun t147 => (if t147 = true then (if x7_1 > 0 then (if 0 ≤ (wrap64 (x7_1 - 1)) then (if (wrap64 (x7_1 - 1)) < (l0.length : Int) then (if ((rd_T70 l0 x7_1).f0) ≤ (wrap64 (((rd_T70 l0 (wrap64 (x7_1 - 1))).f1) + 1)) then (some false) else (impl_SetOk.l0 k1 l0 l0 (l0.length : Int) (wrap64 (x7_1 + 1)))) else (none)) else (none)) else (impl_SetOk.l0 k1 l0 l0 (l0.length : Int) (wrap64 (x7_1 + 1)))) else (some false))) else (some false)) = some r := H;have A5 := Aside0.mk A50;clear A50
      by_cases c6 : t146 = true
      ·subst c6
       have H1 : ((impl_within.f ((rd_T70 l0 x7_1).f1) ((rd_T70 l0 x7_1).f0) 9999).bind fun t147 => (if t147 = true then (if x7_1 > 0 then (if 0 ≤ (wrap64 (x7_1 - 1)) then (if (wrap64 (x7_1 - 1)) < (l0.length : Int) then (if ((rd_T70 l0 x7_1).f0) ≤ (wrap64 (((rd_T70 l0 (wrap64 (x7_1 - 1))).f1) + 1)) then (some false) else (impl_SetOk.l0 k1 l0 l0 (l0.length : Int) (wrap64 (x7_1 + 1)))) else (none)) else (none)) else (impl_SetOk.l0 k1 l0 l0 (l0.length : Int) (wrap64 (x7_1 + 1)))) else (some false))) = some r := by rw [if_pos rfl] at H; exact H
       clear H;have H := H1;clear H1;replace H := Option.bind_eq_some_iff.mp H;obtain ⟨t147, A70, H⟩ := H;replace H : (if t147 = true then (if x7_1 > 0 then (if 0 ≤ (wrap64 (x7_1 - 1)) then (if (wrap64 (x7_1 - 1)) < (l0.length : Int) then (if ((rd_T70 l0 x7_1).f0) ≤ (wrap64 (((rd_T70 l0 (wrap64 (x7_1 - 1))).f1) + 1)) then (some false) else (impl_SetOk.l0 k1 l0 l0 (l0.length : Int) (wrap64 (x7_1 + 1)))) else (none)) else (none)) else (impl_SetOk.l0 k1 l0 l0 (l0.length : Int) (wrap64 (x7_1 + 1)))) else (some false)) = some r := H;have A7 := Aside0.mk A70;clear A70
       by_cases c8 : t147 = true
       ·subst c8
        have H1 : (if x7_1 > 0 then (if 0 ≤ (wrap64 (x7_1 - 1)) then (if (wrap64 (x7_1 - 1)) < (l0.length : Int) then (if ((rd_T70 l0 x7_1).f0) ≤ (wrap64 (((rd_T70 l0 (wrap64 (x7_1 - 1))).f1) + 1)) then (some false) else (impl_SetOk.l0 k1 l0 l0 (l0.length : Int) (wrap64 (x7_1 + 1)))) else (none)) else (none)) else (impl_SetOk.l0 k1 l0 l0 (l0.length : Int) (wrap64 (x7_1 + 1)))) = some r := by rw [if_pos rfl] at H; exact H
        clear H;have H := H1;clear H1
        by_cases c9 : x7_1 > 0
        ·rw [if_pos c9] at H
         have c9b0 : decide (0 < x7_1) = true := decide_eq_true c9;clear c9;obtain ⟨ji10, hji10⟩ : ∃ j_ : Int, (wrap64 (x7_1 - 1)) = j_ := ⟨_, rfl⟩
         replace H : (if 0 ≤ (ji10) then (if (ji10) < (l0.length : Int) then (if ((rd_T70 l0 x7_1).f0) ≤ (wrap64 (((rd_T70 l0 (ji10)).f1) + 1)) then (some false) else (impl_SetOk.l0 k1 l0 l0 (l0.length : Int) (wrap64 (x7_1 + 1)))) else (none)) else (none)) = some r := by first | (rw [hji10] at H; exact H) | (simp only [hji10] at H ⊢; exact H)
         (try rw [hji10] at A5)
         (try rw [hji10] at A7)
         have hji10w : (IntKind.i64.wrap (x7_1 - 1)) = ji10 := (i64_w _).trans hji10
         by_cases c11 : 0 ≤ (ji10)
         ·rw [if_pos c11] at H
          have c11b0 : decide (0 ≤ (ji10)) = true := decide_eq_true c11;clear c11
          by_cases c12 : (ji10) < (l0.length : Int)
          ·rw [if_pos c12] at H
           have c12b0 : decide ((ji10) < (l0.length : Int)) = true := decide_eq_true c12;clear c12
           by_cases c13 : ((rd_T70 l0 x7_1).f0) ≤ (wrap64 (((rd_T70 l0 (ji10)).f1) + 1))
           ·rw [if_pos c13] at H
            have c13b0 : decide (((rd_T70 l0 x7_1).f0) ≤ (wrap64 (((rd_T70 l0 (ji10)).f1) + 1))) = true := decide_eq_true c13
            (try (have c13b1 : decide (((rd_T70 l0 x7_1).f0) ≤ (IntKind.i64.wrap (((rd_T70 l0 (ji10)).f1) + 1))) = true := by simp only [i64_w]; first | exact decide_eq_true c13 | simpa using c13))
            clear c13;obtain rfl := Option.some.inj H;simp only [Option.some.injEq, Prod.mk.injEq] at H;obtain ⟨rfl⟩ := H;have p144 : 0 ≤ (x7_1 : Int) := of_decide_eq_true Z3x4;have q144 : x7_1 < (l0.length : Int) := of_decide_eq_true Z3x4;obtain ⟨ad144, e144, hx144_0, hx144_1⟩ := at_T70 HR0.out x7_1 p144 q144
            cases e144
            replace hx144_0 := czB HB.out hx144_0;replace hx144_1 := czB HB.out hx144_1;replace p144 := eq_true p144;replace q144 := eq_true q144
            go_wp2_with (first | ((with_reducible refine gate_dst (N := 4) rfl ?_); refine box_event ?hg (N := 4) ?hd (cs := #[.int .i64 0, .int .i64 0]) (t := 70) ?hr ?_; (case hd => rfl); (case hg => rfl); (case hr => first | (go_simp; done) | (go_simp; rfl)); intro gb145 hg w14 hbox hb; have n0_ := Aside0.mk (below_step Z3x0 hb); have n1_ := Aside0.mk (hbox); have n2_ := Aside0.mk ((Z3x6 : w.heap.size ≤ gb145)); have n3_ := Aside0.mk ((Z3x6 : w.heap.size ≤ gb145)); clear HB; have HB := n0_; have BK145 := n1_; have GW145 := n2_; have GE145 := n3_; clear n0_ n1_ n2_ n3_; clear hb hbox hg; have hcz15_0 : w14.cell? ⟨gb145, 0, none⟩ = some (.int .i64 0) := (blk_cell BK145.out 0).trans rfl; have hcz15_1 : w14.cell? ⟨gb145, 1, none⟩ = some (.int .i64 0) := (blk_cell BK145.out 1).trans rfl; have hfz15_0 := blk_frozen BK145.out 0; have hfz15_1 := blk_frozen BK145.out 1) | (go_at_call 40; (with_reducible refine (impl_within.calls ((rd_T70 l0 x7_1).f0) 0 9999 true _ A5.out).mono ?_); rintro e w' ⟨rfl, ⟨nd, rfl⟩⟩; (try first | exact ⟨rfl, _, World.drewN_drewN _ _ _⟩ | exact ⟨rfl, _, Eq.trans (World.drewN_drewN _ _ _) (congrArg (World.drewN _) (Nat.add_assoc _ _ _))⟩)) | (go_at_call 40; (with_reducible refine (impl_within.calls ((rd_T70 l0 x7_1).f1) ((rd_T70 l0 x7_1).f0) 9999 true _ A7.out).mono ?_); rintro e w' ⟨rfl, ⟨nd, rfl⟩⟩; (try first | exact ⟨rfl, _, World.drewN_drewN _ _ _⟩ | exact ⟨rfl, _, Eq.trans (World.drewN_drewN _ _ _) (congrArg (World.drewN _) (Nat.add_assoc _ _ _))⟩); have p148 : 0 ≤ ((ji10) : Int) := of_decide_eq_true Z3x4; have q148 : (ji10) < (l0.length : Int) := of_decide_eq_true Z3x4; obtain ⟨ad148, e148, hx148_0, hx148_1⟩ := at_T70 HR0.out (ji10) p148 q148; obtain rfl : ad144 = ad148 := (by injection e148); have hn148_0 : ad144.block ≠ gb145 := Nat.ne_of_lt (Nat.lt_of_lt_of_le Z3x5 GW145.out); have hn148_1 : ad144.block ≠ gb145 := Nat.ne_of_lt (Nat.lt_of_lt_of_le Z3x5 GW145.out); replace hx148_0 := czB HB.out hx148_0; replace hx148_1 := czB HB.out hx148_1; replace hx148_0 := (cell_far (p := ⟨gb145, 0, none⟩) Z3x1 (.int .i64 ((rd_T70 l0 x7_1).f0))).trans hx148_0; replace hx148_1 := (cell_far (p := ⟨gb145, 0, none⟩) Z3x1 (.int .i64 ((rd_T70 l0 x7_1).f0))).trans hx148_1; replace hx148_0 := (cell_far (p := ⟨gb145, 1, none⟩) Z3x2 (.int .i64 ((rd_T70 l0 x7_1).f1))).trans hx148_0; replace hx148_1 := (cell_far (p := ⟨gb145, 1, none⟩) Z3x2 (.int .i64 ((rd_T70 l0 x7_1).f1))).trans hx148_1; (try have hy148_0 := fun (n_ : Nat) => (show ((((w14.drewN n_).setCell ⟨gb145, 0, none⟩ (.int .i64 ((rd_T70 l0 x7_1).f0))).setCell ⟨gb145, 1, none⟩ (.int .i64 ((rd_T70 l0 x7_1).f1)))).cell? _ = some _ from hx148_0)); (try have hy148_1 := fun (n_ : Nat) => (show ((((w14.drewN n_).setCell ⟨gb145, 0, none⟩ (.int .i64 ((rd_T70 l0 x7_1).f0))).setCell ⟨gb145, 1, none⟩ (.int .i64 ((rd_T70 l0 x7_1).f1)))).cell? _ = some _ from hx148_1)); clear hn148_0; clear hn148_1; replace p148 := eq_true p148; replace q148 := eq_true q148))
            repeat (go_quiet (first | ((with_reducible refine gate_dst (N := 4) rfl ?_); refine box_event ?hg (N := 4) ?hd (cs := #[.int .i64 0, .int .i64 0]) (t := 70) ?hr ?_; (case hd => rfl); (case hg => rfl); (case hr => first | (go_simp; done) | (go_simp; rfl)); intro gb145 hg w14 hbox hb; have n0_ := Aside0.mk (below_step Z3x0 hb); have n1_ := Aside0.mk (hbox); have n2_ := Aside0.mk ((Z3x6 : w.heap.size ≤ gb145)); have n3_ := Aside0.mk ((Z3x6 : w.heap.size ≤ gb145)); clear HB; have HB := n0_; have BK145 := n1_; have GW145 := n2_; have GE145 := n3_; clear n0_ n1_ n2_ n3_; clear hb hbox hg; have hcz15_0 : w14.cell? ⟨gb145, 0, none⟩ = some (.int .i64 0) := (blk_cell BK145.out 0).trans rfl; have hcz15_1 : w14.cell? ⟨gb145, 1, none⟩ = some (.int .i64 0) := (blk_cell BK145.out 1).trans rfl; have hfz15_0 := blk_frozen BK145.out 0; have hfz15_1 := blk_frozen BK145.out 1) | (go_at_call 40; (with_reducible refine (impl_within.calls ((rd_T70 l0 x7_1).f0) 0 9999 true _ A5.out).mono ?_); rintro e w' ⟨rfl, ⟨nd, rfl⟩⟩; (try first | exact ⟨rfl, _, World.drewN_drewN _ _ _⟩ | exact ⟨rfl, _, Eq.trans (World.drewN_drewN _ _ _) (congrArg (World.drewN _) (Nat.add_assoc _ _ _))⟩)) | (go_at_call 40; (with_reducible refine (impl_within.calls ((rd_T70 l0 x7_1).f1) ((rd_T70 l0 x7_1).f0) 9999 true _ A7.out).mono ?_); rintro e w' ⟨rfl, ⟨nd, rfl⟩⟩; (try first | exact ⟨rfl, _, World.drewN_drewN _ _ _⟩ | exact ⟨rfl, _, Eq.trans (World.drewN_drewN _ _ _) (congrArg (World.drewN _) (Nat.add_assoc _ _ _))⟩); have p148 : 0 ≤ ((ji10) : Int) := of_decide_eq_true Z3x4; have q148 : (ji10) < (l0.length : Int) := of_decide_eq_true Z3x4; obtain ⟨ad148, e148, hx148_0, hx148_1⟩ := at_T70 HR0.out (ji10) p148 q148; obtain rfl : ad144 = ad148 := (by injection e148); have hn148_0 : ad144.block ≠ gb145 := Nat.ne_of_lt (Nat.lt_of_lt_of_le Z3x5 GW145.out); have hn148_1 : ad144.block ≠ gb145 := Nat.ne_of_lt (Nat.lt_of_lt_of_le Z3x5 GW145.out); replace hx148_0 := czB HB.out hx148_0; replace hx148_1 := czB HB.out hx148_1; replace hx148_0 := (cell_far (p := ⟨gb145, 0, none⟩) Z3x1 (.int .i64 ((rd_T70 l0 x7_1).f0))).trans hx148_0; replace hx148_1 := (cell_far (p := ⟨gb145, 0, none⟩) Z3x1 (.int .i64 ((rd_T70 l0 x7_1).f0))).trans hx148_1; replace hx148_0 := (cell_far (p := ⟨gb145, 1, none⟩) Z3x2 (.int .i64 ((rd_T70 l0 x7_1).f1))).trans hx148_0; replace hx148_1 := (cell_far (p := ⟨gb145, 1, none⟩) Z3x2 (.int .i64 ((rd_T70 l0 x7_1).f1))).trans hx148_1; (try have hy148_0 := fun (n_ : Nat) => (show ((((w14.drewN n_).setCell ⟨gb145, 0, none⟩ (.int .i64 ((rd_T70 l0 x7_1).f0))).setCell ⟨gb145, 1, none⟩ (.int .i64 ((rd_T70 l0 x7_1).f1)))).cell? _ = some _ from hx148_0)); (try have hy148_1 := fun (n_ : Nat) => (show ((((w14.drewN n_).setCell ⟨gb145, 0, none⟩ (.int .i64 ((rd_T70 l0 x7_1).f0))).setCell ⟨gb145, 1, none⟩ (.int .i64 ((rd_T70 l0 x7_1).f1)))).cell? _ = some _ from hx148_1)); clear hn148_0; clear hn148_1; replace p148 := eq_true p148; replace q148 := eq_true q148)); try go_wp2_with (first | ((with_reducible refine gate_dst (N := 4) rfl ?_); refine box_event ?hg (N := 4) ?hd (cs := #[.int .i64 0, .int .i64 0]) (t := 70) ?hr ?_; (case hd => rfl); (case hg => rfl); (case hr => first | (go_simp; done) | (go_simp; rfl)); intro gb145 hg w14 hbox hb; have n0_ := Aside0.mk (below_step Z3x0 hb); have n1_ := Aside0.mk (hbox); have n2_ := Aside0.mk ((Z3x6 : w.heap.size ≤ gb145)); have n3_ := Aside0.mk ((Z3x6 : w.heap.size ≤ gb145)); clear HB; have HB := n0_; have BK145 := n1_; have GW145 := n2_; have GE145 := n3_; clear n0_ n1_ n2_ n3_; clear hb hbox hg; have hcz15_0 : w14.cell? ⟨gb145, 0, none⟩ = some (.int .i64 0) := (blk_cell BK145.out 0).trans rfl; have hcz15_1 : w14.cell? ⟨gb145, 1, none⟩ = some (.int .i64 0) := (blk_cell BK145.out 1).trans rfl; have hfz15_0 := blk_frozen BK145.out 0; have hfz15_1 := blk_frozen BK145.out 1) | (go_at_call 40; (with_reducible refine (impl_within.calls ((rd_T70 l0 x7_1).f0) 0 9999 true _ A5.out).mono ?_); rintro e w' ⟨rfl, ⟨nd, rfl⟩⟩; (try first | exact ⟨rfl, _, World.drewN_drewN _ _ _⟩ | exact ⟨rfl, _, Eq.trans (World.drewN_drewN _ _ _) (congrArg (World.drewN _) (Nat.add_assoc _ _ _))⟩)) | (go_at_call 40; (with_reducible refine (impl_within.calls ((rd_T70 l0 x7_1).f1) ((rd_T70 l0 x7_1).f0) 9999 true _ A7.out).mono ?_); rintro e w' ⟨rfl, ⟨nd, rfl⟩⟩; (try first | exact ⟨rfl, _, World.drewN_drewN _ _ _⟩ | exact ⟨rfl, _, Eq.trans (World.drewN_drewN _ _ _) (congrArg (World.drewN _) (Nat.add_assoc _ _ _))⟩); have p148 : 0 ≤ ((ji10) : Int) := of_decide_eq_true Z3x4; have q148 : (ji10) < (l0.length : Int) := of_decide_eq_true Z3x4; obtain ⟨ad148, e148, hx148_0, hx148_1⟩ := at_T70 HR0.out (ji10) p148 q148; obtain rfl : ad144 = ad148 := (by injection e148); have hn148_0 : ad144.block ≠ gb145 := Nat.ne_of_lt (Nat.lt_of_lt_of_le Z3x5 GW145.out); have hn148_1 : ad144.block ≠ gb145 := Nat.ne_of_lt (Nat.lt_of_lt_of_le Z3x5 GW145.out); replace hx148_0 := czB HB.out hx148_0; replace hx148_1 := czB HB.out hx148_1; replace hx148_0 := (cell_far (p := ⟨gb145, 0, none⟩) Z3x1 (.int .i64 ((rd_T70 l0 x7_1).f0))).trans hx148_0; replace hx148_1 := (cell_far (p := ⟨gb145, 0, none⟩) Z3x1 (.int .i64 ((rd_T70 l0 x7_1).f0))).trans hx148_1; replace hx148_0 := (cell_far (p := ⟨gb145, 1, none⟩) Z3x2 (.int .i64 ((rd_T70 l0 x7_1).f1))).trans hx148_0; replace hx148_1 := (cell_far (p := ⟨gb145, 1, none⟩) Z3x2 (.int .i64 ((rd_T70 l0 x7_1).f1))).trans hx148_1; (try have hy148_0 := fun (n_ : Nat) => (show ((((w14.drewN n_).setCell ⟨gb145, 0, none⟩ (.int .i64 ((rd_T70 l0 x7_1).f0))).setCell ⟨gb145, 1, none⟩ (.int .i64 ((rd_T70 l0 x7_1).f1)))).cell? _ = some _ from hx148_0)); (try have hy148_1 := fun (n_ : Nat) => (show ((((w14.drewN n_).setCell ⟨gb145, 0, none⟩ (.int .i64 ((rd_T70 l0 x7_1).f0))).setCell ⟨gb145, 1, none⟩ (.int .i64 ((rd_T70 l0 x7_1).f1)))).cell? _ = some _ from hx148_1)); clear hn148_0; clear hn148_1; replace p148 := eq_true p148; replace q148 := eq_true q148)))
            go_ret
            exact ⟨by first | rfl | (simp [errW_none, errW_some] <;> rfl) | (simp only [← hji10]; first | rfl | (simp [errW_none, errW_some] <;> rfl)) | (simp [*, errW_none, errW_some] <;> rfl), Z3x7⟩
           ·rw [if_neg c13] at H
            have c13b0 : decide (((rd_T70 l0 x7_1).f0) ≤ (wrap64 (((rd_T70 l0 (ji10)).f1) + 1))) = false := decide_eq_false c13
            (try (have c13b1 : decide (((rd_T70 l0 x7_1).f0) ≤ (IntKind.i64.wrap (((rd_T70 l0 (ji10)).f1) + 1))) = false := by simp only [i64_w]; first | exact decide_eq_false c13 | simpa using c13))
            clear c13;have H' := Aside0.mk H;clear H;have p144 : 0 ≤ (x7_1 : Int) := of_decide_eq_true Z3x4;have q144 : x7_1 < (l0.length : Int) := of_decide_eq_true Z3x4;obtain ⟨ad144, e144, hx144_0, hx144_1⟩ := at_T70 HR0.out x7_1 p144 q144
            cases e144
            replace hx144_0 := czB HB.out hx144_0;replace hx144_1 := czB HB.out hx144_1;replace p144 := eq_true p144;replace q144 := eq_true q144
            go_wp2_with (first | ((with_reducible refine gate_dst (N := 4) rfl ?_); refine box_event ?hg (N := 4) ?hd (cs := #[.int .i64 0, .int .i64 0]) (t := 70) ?hr ?_; (case hd => rfl); (case hg => rfl); (case hr => first | (go_simp; done) | (go_simp; rfl)); intro gb145 hg w16 hbox hb; have n0_ := Aside0.mk (below_step Z3x0 hb); have n1_ := Aside0.mk (hbox); have n2_ := Aside0.mk ((Z3x6 : w.heap.size ≤ gb145)); have n3_ := Aside0.mk ((Z3x6 : w.heap.size ≤ gb145)); clear HB; have HB := n0_; have BK145 := n1_; have GW145 := n2_; have GE145 := n3_; clear n0_ n1_ n2_ n3_; clear hb hbox hg; have hcz17_0 : w16.cell? ⟨gb145, 0, none⟩ = some (.int .i64 0) := (blk_cell BK145.out 0).trans rfl; have hcz17_1 : w16.cell? ⟨gb145, 1, none⟩ = some (.int .i64 0) := (blk_cell BK145.out 1).trans rfl; have hfz17_0 := blk_frozen BK145.out 0; have hfz17_1 := blk_frozen BK145.out 1) | (go_at_call 40; (with_reducible refine (impl_within.calls ((rd_T70 l0 x7_1).f0) 0 9999 true _ A5.out).mono ?_); rintro e w' ⟨rfl, ⟨nd, rfl⟩⟩; (try first | exact ⟨rfl, _, World.drewN_drewN _ _ _⟩ | exact ⟨rfl, _, Eq.trans (World.drewN_drewN _ _ _) (congrArg (World.drewN _) (Nat.add_assoc _ _ _))⟩)) | (go_at_call 40; (with_reducible refine (impl_within.calls ((rd_T70 l0 x7_1).f1) ((rd_T70 l0 x7_1).f0) 9999 true _ A7.out).mono ?_); rintro e w' ⟨rfl, ⟨nd, rfl⟩⟩; (try first | exact ⟨rfl, _, World.drewN_drewN _ _ _⟩ | exact ⟨rfl, _, Eq.trans (World.drewN_drewN _ _ _) (congrArg (World.drewN _) (Nat.add_assoc _ _ _))⟩); have p148 : 0 ≤ ((ji10) : Int) := of_decide_eq_true Z3x4; have q148 : (ji10) < (l0.length : Int) := of_decide_eq_true Z3x4; obtain ⟨ad148, e148, hx148_0, hx148_1⟩ := at_T70 HR0.out (ji10) p148 q148; obtain rfl : ad144 = ad148 := (by injection e148); have hn148_0 : ad144.block ≠ gb145 := Nat.ne_of_lt (Nat.lt_of_lt_of_le Z3x5 GW145.out); have hn148_1 : ad144.block ≠ gb145 := Nat.ne_of_lt (Nat.lt_of_lt_of_le Z3x5 GW145.out); replace hx148_0 := czB HB.out hx148_0; replace hx148_1 := czB HB.out hx148_1; replace hx148_0 := (cell_far (p := ⟨gb145, 0, none⟩) Z3x1 (.int .i64 ((rd_T70 l0 x7_1).f0))).trans hx148_0; replace hx148_1 := (cell_far (p := ⟨gb145, 0, none⟩) Z3x1 (.int .i64 ((rd_T70 l0 x7_1).f0))).trans hx148_1; replace hx148_0 := (cell_far (p := ⟨gb145, 1, none⟩) Z3x2 (.int .i64 ((rd_T70 l0 x7_1).f1))).trans hx148_0; replace hx148_1 := (cell_far (p := ⟨gb145, 1, none⟩) Z3x2 (.int .i64 ((rd_T70 l0 x7_1).f1))).trans hx148_1; (try have hy148_0 := fun (n_ : Nat) => (show ((((w16.drewN n_).setCell ⟨gb145, 0, none⟩ (.int .i64 ((rd_T70 l0 x7_1).f0))).setCell ⟨gb145, 1, none⟩ (.int .i64 ((rd_T70 l0 x7_1).f1)))).cell? _ = some _ from hx148_0)); (try have hy148_1 := fun (n_ : Nat) => (show ((((w16.drewN n_).setCell ⟨gb145, 0, none⟩ (.int .i64 ((rd_T70 l0 x7_1).f0))).setCell ⟨gb145, 1, none⟩ (.int .i64 ((rd_T70 l0 x7_1).f1)))).cell? _ = some _ from hx148_1)); clear hn148_0; clear hn148_1; replace p148 := eq_true p148; replace q148 := eq_true q148))
            repeat (go_quiet (first | ((with_reducible refine gate_dst (N := 4) rfl ?_); refine box_event ?hg (N := 4) ?hd (cs := #[.int .i64 0, .int .i64 0]) (t := 70) ?hr ?_; (case hd => rfl); (case hg => rfl); (case hr => first | (go_simp; done) | (go_simp; rfl)); intro gb145 hg w16 hbox hb; have n0_ := Aside0.mk (below_step Z3x0 hb); have n1_ := Aside0.mk (hbox); have n2_ := Aside0.mk ((Z3x6 : w.heap.size ≤ gb145)); have n3_ := Aside0.mk ((Z3x6 : w.heap.size ≤ gb145)); clear HB; have HB := n0_; have BK145 := n1_; have GW145 := n2_; have GE145 := n3_; clear n0_ n1_ n2_ n3_; clear hb hbox hg; have hcz17_0 : w16.cell? ⟨gb145, 0, none⟩ = some (.int .i64 0) := (blk_cell BK145.out 0).trans rfl; have hcz17_1 : w16.cell? ⟨gb145, 1, none⟩ = some (.int .i64 0) := (blk_cell BK145.out 1).trans rfl; have hfz17_0 := blk_frozen BK145.out 0; have hfz17_1 := blk_frozen BK145.out 1) | (go_at_call 40; (with_reducible refine (impl_within.calls ((rd_T70 l0 x7_1).f0) 0 9999 true _ A5.out).mono ?_); rintro e w' ⟨rfl, ⟨nd, rfl⟩⟩; (try first | exact ⟨rfl, _, World.drewN_drewN _ _ _⟩ | exact ⟨rfl, _, Eq.trans (World.drewN_drewN _ _ _) (congrArg (World.drewN _) (Nat.add_assoc _ _ _))⟩)) | (go_at_call 40; (with_reducible refine (impl_within.calls ((rd_T70 l0 x7_1).f1) ((rd_T70 l0 x7_1).f0) 9999 true _ A7.out).mono ?_); rintro e w' ⟨rfl, ⟨nd, rfl⟩⟩; (try first | exact ⟨rfl, _, World.drewN_drewN _ _ _⟩ | exact ⟨rfl, _, Eq.trans (World.drewN_drewN _ _ _) (congrArg (World.drewN _) (Nat.add_assoc _ _ _))⟩); have p148 : 0 ≤ ((ji10) : Int) := of_decide_eq_true Z3x4; have q148 : (ji10) < (l0.length : Int) := of_decide_eq_true Z3x4; obtain ⟨ad148, e148, hx148_0, hx148_1⟩ := at_T70 HR0.out (ji10) p148 q148; obtain rfl : ad144 = ad148 := (by injection e148); have hn148_0 : ad144.block ≠ gb145 := Nat.ne_of_lt (Nat.lt_of_lt_of_le Z3x5 GW145.out); have hn148_1 : ad144.block ≠ gb145 := Nat.ne_of_lt (Nat.lt_of_lt_of_le Z3x5 GW145.out); replace hx148_0 := czB HB.out hx148_0; replace hx148_1 := czB HB.out hx148_1; replace hx148_0 := (cell_far (p := ⟨gb145, 0, none⟩) Z3x1 (.int .i64 ((rd_T70 l0 x7_1).f0))).trans hx148_0; replace hx148_1 := (cell_far (p := ⟨gb145, 0, none⟩) Z3x1 (.int .i64 ((rd_T70 l0 x7_1).f0))).trans hx148_1; replace hx148_0 := (cell_far (p := ⟨gb145, 1, none⟩) Z3x2 (.int .i64 ((rd_T70 l0 x7_1).f1))).trans hx148_0; replace hx148_1 := (cell_far (p := ⟨gb145, 1, none⟩) Z3x2 (.int .i64 ((rd_T70 l0 x7_1).f1))).trans hx148_1; (try have hy148_0 := fun (n_ : Nat) => (show ((((w16.drewN n_).setCell ⟨gb145, 0, none⟩ (.int .i64 ((rd_T70 l0 x7_1).f0))).setCell ⟨gb145, 1, none⟩ (.int .i64 ((rd_T70 l0 x7_1).f1)))).cell? _ = some _ from hx148_0)); (try have hy148_1 := fun (n_ : Nat) => (show ((((w16.drewN n_).setCell ⟨gb145, 0, none⟩ (.int .i64 ((rd_T70 l0 x7_1).f0))).setCell ⟨gb145, 1, none⟩ (.int .i64 ((rd_T70 l0 x7_1).f1)))).cell? _ = some _ from hx148_1)); clear hn148_0; clear hn148_1; replace p148 := eq_true p148; replace q148 := eq_true q148)); try go_wp2_with (first | ((with_reducible refine gate_dst (N := 4) rfl ?_); refine box_event ?hg (N := 4) ?hd (cs := #[.int .i64 0, .int .i64 0]) (t := 70) ?hr ?_; (case hd => rfl); (case hg => rfl); (case hr => first | (go_simp; done) | (go_simp; rfl)); intro gb145 hg w16 hbox hb; have n0_ := Aside0.mk (below_step Z3x0 hb); have n1_ := Aside0.mk (hbox); have n2_ := Aside0.mk ((Z3x6 : w.heap.size ≤ gb145)); have n3_ := Aside0.mk ((Z3x6 : w.heap.size ≤ gb145)); clear HB; have HB := n0_; have BK145 := n1_; have GW145 := n2_; have GE145 := n3_; clear n0_ n1_ n2_ n3_; clear hb hbox hg; have hcz17_0 : w16.cell? ⟨gb145, 0, none⟩ = some (.int .i64 0) := (blk_cell BK145.out 0).trans rfl; have hcz17_1 : w16.cell? ⟨gb145, 1, none⟩ = some (.int .i64 0) := (blk_cell BK145.out 1).trans rfl; have hfz17_0 := blk_frozen BK145.out 0; have hfz17_1 := blk_frozen BK145.out 1) | (go_at_call 40; (with_reducible refine (impl_within.calls ((rd_T70 l0 x7_1).f0) 0 9999 true _ A5.out).mono ?_); rintro e w' ⟨rfl, ⟨nd, rfl⟩⟩; (try first | exact ⟨rfl, _, World.drewN_drewN _ _ _⟩ | exact ⟨rfl, _, Eq.trans (World.drewN_drewN _ _ _) (congrArg (World.drewN _) (Nat.add_assoc _ _ _))⟩)) | (go_at_call 40; (with_reducible refine (impl_within.calls ((rd_T70 l0 x7_1).f1) ((rd_T70 l0 x7_1).f0) 9999 true _ A7.out).mono ?_); rintro e w' ⟨rfl, ⟨nd, rfl⟩⟩; (try first | exact ⟨rfl, _, World.drewN_drewN _ _ _⟩ | exact ⟨rfl, _, Eq.trans (World.drewN_drewN _ _ _) (congrArg (World.drewN _) (Nat.add_assoc _ _ _))⟩); have p148 : 0 ≤ ((ji10) : Int) := of_decide_eq_true Z3x4; have q148 : (ji10) < (l0.length : Int) := of_decide_eq_true Z3x4; obtain ⟨ad148, e148, hx148_0, hx148_1⟩ := at_T70 HR0.out (ji10) p148 q148; obtain rfl : ad144 = ad148 := (by injection e148); have hn148_0 : ad144.block ≠ gb145 := Nat.ne_of_lt (Nat.lt_of_lt_of_le Z3x5 GW145.out); have hn148_1 : ad144.block ≠ gb145 := Nat.ne_of_lt (Nat.lt_of_lt_of_le Z3x5 GW145.out); replace hx148_0 := czB HB.out hx148_0; replace hx148_1 := czB HB.out hx148_1; replace hx148_0 := (cell_far (p := ⟨gb145, 0, none⟩) Z3x1 (.int .i64 ((rd_T70 l0 x7_1).f0))).trans hx148_0; replace hx148_1 := (cell_far (p := ⟨gb145, 0, none⟩) Z3x1 (.int .i64 ((rd_T70 l0 x7_1).f0))).trans hx148_1; replace hx148_0 := (cell_far (p := ⟨gb145, 1, none⟩) Z3x2 (.int .i64 ((rd_T70 l0 x7_1).f1))).trans hx148_0; replace hx148_1 := (cell_far (p := ⟨gb145, 1, none⟩) Z3x2 (.int .i64 ((rd_T70 l0 x7_1).f1))).trans hx148_1; (try have hy148_0 := fun (n_ : Nat) => (show ((((w16.drewN n_).setCell ⟨gb145, 0, none⟩ (.int .i64 ((rd_T70 l0 x7_1).f0))).setCell ⟨gb145, 1, none⟩ (.int .i64 ((rd_T70 l0 x7_1).f1)))).cell? _ = some _ from hx148_0)); (try have hy148_1 := fun (n_ : Nat) => (show ((((w16.drewN n_).setCell ⟨gb145, 0, none⟩ (.int .i64 ((rd_T70 l0 x7_1).f0))).setCell ⟨gb145, 1, none⟩ (.int .i64 ((rd_T70 l0 x7_1).f1)))).cell? _ = some _ from hx148_1)); clear hn148_0; clear hn148_1; replace p148 := eq_true p148; replace q148 := eq_true q148)))
            go_roundg k1
            case measure => have := HK1.out; omega
            case rel => exact ⟨(wrap64 (x7_1 + 1)), (by first | rfl | (simp; done) | (simp [*]; done)), H', ⟨by have := HK1.out; omega⟩, ⟨Z3x7⟩⟩
          ·rw [if_neg c12] at H
           exact absurd H (by simp)
         ·rw [if_neg c11] at H
          exact absurd H (by simp)
        ·rw [if_neg c9] at H
         have c9b0 : decide (0 < x7_1) = false := decide_eq_false c9;clear c9;have H' := Aside0.mk H;clear H;have p144 : 0 ≤ (x7_1 : Int) := of_decide_eq_true Z3x4;have q144 : x7_1 < (l0.length : Int) := of_decide_eq_true Z3x4;obtain ⟨ad144, e144, hx144_0, hx144_1⟩ := at_T70 HR0.out x7_1 p144 q144
         cases e144
         replace hx144_0 := czB HB.out hx144_0;replace hx144_1 := czB HB.out hx144_1;replace p144 := eq_true p144;replace q144 := eq_true q144
         go_wp2_with (first | ((with_reducible refine gate_dst (N := 4) rfl ?_); refine box_event ?hg (N := 4) ?hd (cs := #[.int .i64 0, .int .i64 0]) (t := 70) ?hr ?_; (case hd => rfl); (case hg => rfl); (case hr => first | (go_simp; done) | (go_simp; rfl)); intro gb145 hg w18 hbox hb; have n0_ := Aside0.mk (below_step Z3x0 hb); have n1_ := Aside0.mk (hbox); have n2_ := Aside0.mk ((Z3x6 : w.heap.size ≤ gb145)); have n3_ := Aside0.mk ((Z3x6 : w.heap.size ≤ gb145)); clear HB; have HB := n0_; have BK145 := n1_; have GW145 := n2_; have GE145 := n3_; clear n0_ n1_ n2_ n3_; clear hb hbox hg; have hcz19_0 : w18.cell? ⟨gb145, 0, none⟩ = some (.int .i64 0) := (blk_cell BK145.out 0).trans rfl; have hcz19_1 : w18.cell? ⟨gb145, 1, none⟩ = some (.int .i64 0) := (blk_cell BK145.out 1).trans rfl; have hfz19_0 := blk_frozen BK145.out 0; have hfz19_1 := blk_frozen BK145.out 1) | (go_at_call 40; (with_reducible refine (impl_within.calls ((rd_T70 l0 x7_1).f0) 0 9999 true _ A5.out).mono ?_); rintro e w' ⟨rfl, ⟨nd, rfl⟩⟩; (try first | exact ⟨rfl, _, World.drewN_drewN _ _ _⟩ | exact ⟨rfl, _, Eq.trans (World.drewN_drewN _ _ _) (congrArg (World.drewN _) (Nat.add_assoc _ _ _))⟩)) | (go_at_call 40; (with_reducible refine (impl_within.calls ((rd_T70 l0 x7_1).f1) ((rd_T70 l0 x7_1).f0) 9999 true _ A7.out).mono ?_); rintro e w' ⟨rfl, ⟨nd, rfl⟩⟩; (try first | exact ⟨rfl, _, World.drewN_drewN _ _ _⟩ | exact ⟨rfl, _, Eq.trans (World.drewN_drewN _ _ _) (congrArg (World.drewN _) (Nat.add_assoc _ _ _))⟩)))
         repeat (go_quiet (first | ((with_reducible refine gate_dst (N := 4) rfl ?_); refine box_event ?hg (N := 4) ?hd (cs := #[.int .i64 0, .int .i64 0]) (t := 70) ?hr ?_; (case hd => rfl); (case hg => rfl); (case hr => first | (go_simp; done) | (go_simp; rfl)); intro gb145 hg w18 hbox hb; have n0_ := Aside0.mk (below_step Z3x0 hb); have n1_ := Aside0.mk (hbox); have n2_ := Aside0.mk ((Z3x6 : w.heap.size ≤ gb145)); have n3_ := Aside0.mk ((Z3x6 : w.heap.size ≤ gb145)); clear HB; have HB := n0_; have BK145 := n1_; have GW145 := n2_; have GE145 := n3_; clear n0_ n1_ n2_ n3_; clear hb hbox hg; have hcz19_0 : w18.cell? ⟨gb145, 0, none⟩ = some (.int .i64 0) := (blk_cell BK145.out 0).trans rfl; have hcz19_1 : w18.cell? ⟨gb145, 1, none⟩ = some (.int .i64 0) := (blk_cell BK145.out 1).trans rfl; have hfz19_0 := blk_frozen BK145.out 0; have hfz19_1 := blk_frozen BK145.out 1) | (go_at_call 40; (with_reducible refine (impl_within.calls ((rd_T70 l0 x7_1).f0) 0 9999 true _ A5.out).mono ?_); rintro e w' ⟨rfl, ⟨nd, rfl⟩⟩; (try first | exact ⟨rfl, _, World.drewN_drewN _ _ _⟩ | exact ⟨rfl, _, Eq.trans (World.drewN_drewN _ _ _) (congrArg (World.drewN _) (Nat.add_assoc _ _ _))⟩)) | (go_at_call 40; (with_reducible refine (impl_within.calls ((rd_T70 l0 x7_1).f1) ((rd_T70 l0 x7_1).f0) 9999 true _ A7.out).mono ?_); rintro e w' ⟨rfl, ⟨nd, rfl⟩⟩; (try first | exact ⟨rfl, _, World.drewN_drewN _ _ _⟩ | exact ⟨rfl, _, Eq.trans (World.drewN_drewN _ _ _) (congrArg (World.drewN _) (Nat.add_assoc _ _ _))⟩))); try go_wp2_with (first | ((with_reducible refine gate_dst (N := 4) rfl ?_); refine box_event ?hg (N := 4) ?hd (cs := #[.int .i64 0, .int .i64 0]) (t := 70) ?hr ?_; (case hd => rfl); (case hg => rfl); (case hr => first | (go_simp; done) | (go_simp; rfl)); intro gb145 hg w18 hbox hb; have n0_ := Aside0.mk (below_step Z3x0 hb); have n1_ := Aside0.mk (hbox); have n2_ := Aside0.mk ((Z3x6 : w.heap.size ≤ gb145)); have n3_ := Aside0.mk ((Z3x6 : w.heap.size ≤ gb145)); clear HB; have HB := n0_; have BK145 := n1_; have GW145 := n2_; have GE145 := n3_; clear n0_ n1_ n2_ n3_; clear hb hbox hg; have hcz19_0 : w18.cell? ⟨gb145, 0, none⟩ = some (.int .i64 0) := (blk_cell BK145.out 0).trans rfl; have hcz19_1 : w18.cell? ⟨gb145, 1, none⟩ = some (.int .i64 0) := (blk_cell BK145.out 1).trans rfl; have hfz19_0 := blk_frozen BK145.out 0; have hfz19_1 := blk_frozen BK145.out 1) | (go_at_call 40; (with_reducible refine (impl_within.calls ((rd_T70 l0 x7_1).f0) 0 9999 true _ A5.out).mono ?_); rintro e w' ⟨rfl, ⟨nd, rfl⟩⟩; (try first | exact ⟨rfl, _, World.drewN_drewN _ _ _⟩ | exact ⟨rfl, _, Eq.trans (World.drewN_drewN _ _ _) (congrArg (World.drewN _) (Nat.add_assoc _ _ _))⟩)) | (go_at_call 40; (with_reducible refine (impl_within.calls ((rd_T70 l0 x7_1).f1) ((rd_T70 l0 x7_1).f0) 9999 true _ A7.out).mono ?_); rintro e w' ⟨rfl, ⟨nd, rfl⟩⟩; (try first | exact ⟨rfl, _, World.drewN_drewN _ _ _⟩ | exact ⟨rfl, _, Eq.trans (World.drewN_drewN _ _ _) (congrArg (World.drewN _) (Nat.add_assoc _ _ _))⟩))))
         go_roundg k1
         case measure => have := HK1.out; omega
         case rel => exact ⟨(wrap64 (x7_1 + 1)), (by first | rfl | (simp; done) | (simp [*]; done)), H', ⟨by have := HK1.out; omega⟩, ⟨Z3x7⟩⟩
       ·replace c8 := Bool.eq_false_iff.mpr c8
        subst c8
        have H1 : (some false) = some r := by rw [if_neg (show ¬ (false = true) by decide)] at H; exact H
        clear H;have H := H1;clear H1;obtain rfl := Option.some.inj H;simp only [Option.some.injEq, Prod.mk.injEq] at H;obtain ⟨rfl⟩ := H;have p144 : 0 ≤ (x7_1 : Int) := of_decide_eq_true Z3x4;have q144 : x7_1 < (l0.length : Int) := of_decide_eq_true Z3x4;obtain ⟨ad144, e144, hx144_0, hx144_1⟩ := at_T70 HR0.out x7_1 p144 q144
        cases e144
        replace hx144_0 := czB HB.out hx144_0;replace hx144_1 := czB HB.out hx144_1;replace p144 := eq_true p144;replace q144 := eq_true q144
        go_wp2_with (first | ((with_reducible refine gate_dst (N := 4) rfl ?_); refine box_event ?hg (N := 4) ?hd (cs := #[.int .i64 0, .int .i64 0]) (t := 70) ?hr ?_; (case hd => rfl); (case hg => rfl); (case hr => first | (go_simp; done) | (go_simp; rfl)); intro gb145 hg w20 hbox hb; have n0_ := Aside0.mk (below_step Z3x0 hb); have n1_ := Aside0.mk (hbox); have n2_ := Aside0.mk ((Z3x6 : w.heap.size ≤ gb145)); have n3_ := Aside0.mk ((Z3x6 : w.heap.size ≤ gb145)); clear HB; have HB := n0_; have BK145 := n1_; have GW145 := n2_; have GE145 := n3_; clear n0_ n1_ n2_ n3_; clear hb hbox hg; have hcz21_0 : w20.cell? ⟨gb145, 0, none⟩ = some (.int .i64 0) := (blk_cell BK145.out 0).trans rfl; have hcz21_1 : w20.cell? ⟨gb145, 1, none⟩ = some (.int .i64 0) := (blk_cell BK145.out 1).trans rfl; have hfz21_0 := blk_frozen BK145.out 0; have hfz21_1 := blk_frozen BK145.out 1) | (go_at_call 40; (with_reducible refine (impl_within.calls ((rd_T70 l0 x7_1).f0) 0 9999 true _ A5.out).mono ?_); rintro e w' ⟨rfl, ⟨nd, rfl⟩⟩; (try first | exact ⟨rfl, _, World.drewN_drewN _ _ _⟩ | exact ⟨rfl, _, Eq.trans (World.drewN_drewN _ _ _) (congrArg (World.drewN _) (Nat.add_assoc _ _ _))⟩)) | (go_at_call 40; (with_reducible refine (impl_within.calls ((rd_T70 l0 x7_1).f1) ((rd_T70 l0 x7_1).f0) 9999 false _ A7.out).mono ?_); rintro e w' ⟨rfl, ⟨nd, rfl⟩⟩; (try first | exact ⟨rfl, _, World.drewN_drewN _ _ _⟩ | exact ⟨rfl, _, Eq.trans (World.drewN_drewN _ _ _) (congrArg (World.drewN _) (Nat.add_assoc _ _ _))⟩)))
        repeat (go_quiet (first | ((with_reducible refine gate_dst (N := 4) rfl ?_); refine box_event ?hg (N := 4) ?hd (cs := #[.int .i64 0, .int .i64 0]) (t := 70) ?hr ?_; (case hd => rfl); (case hg => rfl); (case hr => first | (go_simp; done) | (go_simp; rfl)); intro gb145 hg w20 hbox hb; have n0_ := Aside0.mk (below_step Z3x0 hb); have n1_ := Aside0.mk (hbox); have n2_ := Aside0.mk ((Z3x6 : w.heap.size ≤ gb145)); have n3_ := Aside0.mk ((Z3x6 : w.heap.size ≤ gb145)); clear HB; have HB := n0_; have BK145 := n1_; have GW145 := n2_; have GE145 := n3_; clear n0_ n1_ n2_ n3_; clear hb hbox hg; have hcz21_0 : w20.cell? ⟨gb145, 0, none⟩ = some (.int .i64 0) := (blk_cell BK145.out 0).trans rfl; have hcz21_1 : w20.cell? ⟨gb145, 1, none⟩ = some (.int .i64 0) := (blk_cell BK145.out 1).trans rfl; have hfz21_0 := blk_frozen BK145.out 0; have hfz21_1 := blk_frozen BK145.out 1) | (go_at_call 40; (with_reducible refine (impl_within.calls ((rd_T70 l0 x7_1).f0) 0 9999 true _ A5.out).mono ?_); rintro e w' ⟨rfl, ⟨nd, rfl⟩⟩; (try first | exact ⟨rfl, _, World.drewN_drewN _ _ _⟩ | exact ⟨rfl, _, Eq.trans (World.drewN_drewN _ _ _) (congrArg (World.drewN _) (Nat.add_assoc _ _ _))⟩)) | (go_at_call 40; (with_reducible refine (impl_within.calls ((rd_T70 l0 x7_1).f1) ((rd_T70 l0 x7_1).f0) 9999 false _ A7.out).mono ?_); rintro e w' ⟨rfl, ⟨nd, rfl⟩⟩; (try first | exact ⟨rfl, _, World.drewN_drewN _ _ _⟩ | exact ⟨rfl, _, Eq.trans (World.drewN_drewN _ _ _) (congrArg (World.drewN _) (Nat.add_assoc _ _ _))⟩))); try go_wp2_with (first | ((with_reducible refine gate_dst (N := 4) rfl ?_); refine box_event ?hg (N := 4) ?hd (cs := #[.int .i64 0, .int .i64 0]) (t := 70) ?hr ?_; (case hd => rfl); (case hg => rfl); (case hr => first | (go_simp; done) | (go_simp; rfl)); intro gb145 hg w20 hbox hb; have n0_ := Aside0.mk (below_step Z3x0 hb); have n1_ := Aside0.mk (hbox); have n2_ := Aside0.mk ((Z3x6 : w.heap.size ≤ gb145)); have n3_ := Aside0.mk ((Z3x6 : w.heap.size ≤ gb145)); clear HB; have HB := n0_; have BK145 := n1_; have GW145 := n2_; have GE145 := n3_; clear n0_ n1_ n2_ n3_; clear hb hbox hg; have hcz21_0 : w20.cell? ⟨gb145, 0, none⟩ = some (.int .i64 0) := (blk_cell BK145.out 0).trans rfl; have hcz21_1 : w20.cell? ⟨gb145, 1, none⟩ = some (.int .i64 0) := (blk_cell BK145.out 1).trans rfl; have hfz21_0 := blk_frozen BK145.out 0; have hfz21_1 := blk_frozen BK145.out 1) | (go_at_call 40; (with_reducible refine (impl_within.calls ((rd_T70 l0 x7_1).f0) 0 9999 true _ A5.out).mono ?_); rintro e w' ⟨rfl, ⟨nd, rfl⟩⟩; (try first | exact ⟨rfl, _, World.drewN_drewN _ _ _⟩ | exact ⟨rfl, _, Eq.trans (World.drewN_drewN _ _ _) (congrArg (World.drewN _) (Nat.add_assoc _ _ _))⟩)) | (go_at_call 40; (with_reducible refine (impl_within.calls ((rd_T70 l0 x7_1).f1) ((rd_T70 l0 x7_1).f0) 9999 false _ A7.out).mono ?_); rintro e w' ⟨rfl, ⟨nd, rfl⟩⟩; (try first | exact ⟨rfl, _, World.drewN_drewN _ _ _⟩ | exact ⟨rfl, _, Eq.trans (World.drewN_drewN _ _ _) (congrArg (World.drewN _) (Nat.add_assoc _ _ _))⟩))))
        go_ret
        exact ⟨Z3x9, Z3x7⟩
      ·replace c6 := Bool.eq_false_iff.mpr c6
       subst c6
       have H1 : (some false) = some r := by rw [if_neg (show ¬ (false = true) by decide)] at H; exact H
       clear H;have H := H1;clear H1;obtain rfl := Option.some.inj H;simp only [Option.some.injEq, Prod.mk.injEq] at H;obtain ⟨rfl⟩ := H;have p144 : 0 ≤ (x7_1 : Int) := of_decide_eq_true Z3x4;have q144 : x7_1 < (l0.length : Int) := of_decide_eq_true Z3x4;obtain ⟨ad144, e144, hx144_0, hx144_1⟩ := at_T70 HR0.out x7_1 p144 q144
       cases e144
       replace hx144_0 := czB HB.out hx144_0;replace hx144_1 := czB HB.out hx144_1;replace p144 := eq_true p144;replace q144 := eq_true q144
       go_wp2_with (first | ((with_reducible refine gate_dst (N := 4) rfl ?_); refine box_event ?hg (N := 4) ?hd (cs := #[.int .i64 0, .int .i64 0]) (t := 70) ?hr ?_; (case hd => rfl); (case hg => rfl); (case hr => first | (go_simp; done) | (go_simp; rfl)); intro gb145 hg w22 hbox hb; have n0_ := Aside0.mk (below_step Z3x0 hb); have n1_ := Aside0.mk (hbox); have n2_ := Aside0.mk ((Z3x6 : w.heap.size ≤ gb145)); have n3_ := Aside0.mk ((Z3x6 : w.heap.size ≤ gb145)); clear HB; have HB := n0_; have BK145 := n1_; have GW145 := n2_; have GE145 := n3_; clear n0_ n1_ n2_ n3_; clear hb hbox hg; have hcz23_0 : w22.cell? ⟨gb145, 0, none⟩ = some (.int .i64 0) := (blk_cell BK145.out 0).trans rfl; have hcz23_1 : w22.cell? ⟨gb145, 1, none⟩ = some (.int .i64 0) := (blk_cell BK145.out 1).trans rfl; have hfz23_0 := blk_frozen BK145.out 0; have hfz23_1 := blk_frozen BK145.out 1) | (go_at_call 40; (with_reducible refine (impl_within.calls ((rd_T70 l0 x7_1).f0) 0 9999 false _ A5.out).mono ?_); rintro e w' ⟨rfl, ⟨nd, rfl⟩⟩; (try first | exact ⟨rfl, _, World.drewN_drewN _ _ _⟩ | exact ⟨rfl, _, Eq.trans (World.drewN_drewN _ _ _) (congrArg (World.drewN _) (Nat.add_assoc _ _ _))⟩)))
       repeat (go_quiet (first | ((with_reducible refine gate_dst (N := 4) rfl ?_); refine box_event ?hg (N := 4) ?hd (cs := #[.int .i64 0, .int .i64 0]) (t := 70) ?hr ?_; (case hd => rfl); (case hg => rfl); (case hr => first | (go_simp; done) | (go_simp; rfl)); intro gb145 hg w22 hbox hb; have n0_ := Aside0.mk (below_step Z3x0 hb); have n1_ := Aside0.mk (hbox); have n2_ := Aside0.mk ((Z3x6 : w.heap.size ≤ gb145)); have n3_ := Aside0.mk ((Z3x6 : w.heap.size ≤ gb145)); clear HB; have HB := n0_; have BK145 := n1_; have GW145 := n2_; have GE145 := n3_; clear n0_ n1_ n2_ n3_; clear hb hbox hg; have hcz23_0 : w22.cell? ⟨gb145, 0, none⟩ = some (.int .i64 0) := (blk_cell BK145.out 0).trans rfl; have hcz23_1 : w22.cell? ⟨gb145, 1, none⟩ = some (.int .i64 0) := (blk_cell BK145.out 1).trans rfl; have hfz23_0 := blk_frozen BK145.out 0; have hfz23_1 := blk_frozen BK145.out 1) | (go_at_call 40; (with_reducible refine (impl_within.calls ((rd_T70 l0 x7_1).f0) 0 9999 false _ A5.out).mono ?_); rintro e w' ⟨rfl, ⟨nd, rfl⟩⟩; (try first | exact ⟨rfl, _, World.drewN_drewN _ _ _⟩ | exact ⟨rfl, _, Eq.trans (World.drewN_drewN _ _ _) (congrArg (World.drewN _) (Nat.add_assoc _ _ _))⟩))); try go_wp2_with (first | ((with_reducible refine gate_dst (N := 4) rfl ?_); refine box_event ?hg (N := 4) ?hd (cs := #[.int .i64 0, .int .i64 0]) (t := 70) ?hr ?_; (case hd => rfl); (case hg => rfl); (case hr => first | (go_simp; done) | (go_simp; rfl)); intro gb145 hg w22 hbox hb; have n0_ := Aside0.mk (below_step Z3x0 hb); have n1_ := Aside0.mk (hbox); have n2_ := Aside0.mk ((Z3x6 : w.heap.size ≤ gb145)); have n3_ := Aside0.mk ((Z3x6 : w.heap.size ≤ gb145)); clear HB; have HB := n0_; have BK145 := n1_; have GW145 := n2_; have GE145 := n3_; clear n0_ n1_ n2_ n3_; clear hb hbox hg; have hcz23_0 : w22.cell? ⟨gb145, 0, none⟩ = some (.int .i64 0) := (blk_cell BK145.out 0).trans rfl; have hcz23_1 : w22.cell? ⟨gb145, 1, none⟩ = some (.int .i64 0) := (blk_cell BK145.out 1).trans rfl; have hfz23_0 := blk_frozen BK145.out 0; have hfz23_1 := blk_frozen BK145.out 1) | (go_at_call 40; (with_reducible refine (impl_within.calls ((rd_T70 l0 x7_1).f0) 0 9999 false _ A5.out).mono ?_); rintro e w' ⟨rfl, ⟨nd, rfl⟩⟩; (try first | exact ⟨rfl, _, World.drewN_drewN _ _ _⟩ | exact ⟨rfl, _, Eq.trans (World.drewN_drewN _ _ _) (congrArg (World.drewN _) (Nat.add_assoc _ _ _))⟩))))
       go_ret
       exact ⟨Z3x9, Z3x7⟩
     ·rw [if_neg c4] at H
      exact absurd H (by simp)
    ·rw [if_neg c3] at H
     exact absurd H (by simp)
   ·rw [if_neg c2] at H
    have c2b0 : decide (x7_1 < (l0.length : Int)) = false := decide_eq_false c2;clear c2;obtain rfl := Option.some.inj H;simp only [Option.some.injEq, Prod.mk.injEq] at H;obtain ⟨rfl⟩ := H
    go_wp2
    repeat (go_quiet (fail); try go_wp2)
    go_ret
    exact ⟨Z3x9, Z3x0⟩

def impl_copyInts.f (l0 : List Int) : Option (List Int) := if ([] : List Int).length + l0.length < 17592186044416 then (some (([] : List Int) ++ l0)) else (none)
set_option maxHeartbeats 8000000 in
set_option maxRecDepth 100000 in
theorem impl_copyInts.calls (A0 : Option Addr) (c0 : Nat) (l0 : List Int) (r : List Int) (w : World) (hr0 : Kd.C (Kd.int .i64) w A0 l0.length l0) (hc0 : l0.length ≤ c0) (h : impl_copyInts.f l0 = some r) :
  Calls Try.prog 71 #[.slice A0 l0.length c0] w fun e w' => ∃ v0_ : Value, e = .returned (v0_) ∧ Kd.R (Kd.int .i64) 3 w' w.heap.size (fun _ => True) v0_ r ∧ Below w.heap.size w w' := by
 have HR0 := Aside0.mk hr0
 have HC0 := Aside0.mk hc0
 clear hr0 hc0
 have HB := Aside0.mk (Below.refl w.heap.size w)
 have H : (if ([] : List Int).length + l0.length < 17592186044416 then (some (([] : List Int) ++ l0)) else (none)) = some r := h
 clear h
 by_cases c2 : ([] : List Int).length + l0.length < 17592186044416
 ·rw [if_pos c2] at H
  have LMc2 := Aside0.mk c2
  clear c2
  obtain ⟨y149, hy149⟩ : ∃ y_ : List Int, y_ = (([] : List Int) ++ l0) := ⟨_, rfl⟩
  replace H : (some y149) = some r := by first | (rw [hy149]; with_reducible exact H) | (have H2_ := (Option.bind_some _ _).symm.trans H; rw [hy149]; with_reducible exact H2_) | (have H2_ := (Option.bind_some _ _).symm.trans H; with_reducible exact H2_) | with_reducible exact H | (rw [hy149]; exact H) | exact H
  have Ny149 := Aside0.mk hy149
  clear hy149
  obtain rfl := Option.some.inj H
  simp only [Option.some.injEq, Prod.mk.injEq] at H
  obtain ⟨rfl⟩ := H
  go_enter Try.func71, Try.ntmps71
  go_wp2_with (first | ((with_reducible refine gate_builtin (b := .append) (xs := #[.const (.slice none 0 0), .tmp 3]) rfl ?_); at_builtin; refine Kd.R_append_rows (Kd.int .i64) (w0 := w) w.heap.size rfl (.const (.slice none 0 0)) (.tmp 3) 24 3 (.int .i64 0) 8 rfl Try.underlying24 info3 rfl (by decide) (by omega) (.slice none 0 0) ([] : List Int) l0 _ _ _ (fun _ => True) (fun _ => False) rfl rfl ?aO ?aR (fun _ _ h => h) (fun _ h => h.elim) ?aF ?aB ?aS ?aL ?_; (case aR => repeat (first | exact HR0.out | (with_reducible refine Kd.C_alloc ?_ _) | (with_reducible refine Kd.C_drewN ?_ _) | (with_reducible refine Kd.C_drew ?_))); (case aB => exact Z3x0); (case aF => exact (fun _ _ => trivial)); (case aO => exact ((Kd.R_nil _ _ _ _ (fun _ => True)))); (case aS => exact (below_size Z3x0)); (case aL => have := LMc2.out; omega); intro v150 w3 ho hb hg hat; rw [← Ny149.out] at ho; have n0_ := Aside0.mk (hb); have n1_ := Aside0.mk (ho); clear HB; have HB := n0_; have HO151 := n1_; clear n0_ n1_; clear ho hb hg hat))
  go_ret
  exact ⟨_, Z3x9, by (with_reducible repeat (first | apply Kd.R_alloc | apply Kd.R_drewN | apply Kd.R_drew)); exact HO151.out, Z3x0⟩
 ·rw [if_neg c2] at H
  exact absurd H (by simp)

def impl_counts.l0 : Nat → List Int → List (List Int) → Int → Int → Option (List Int)
 | 0, _, _, _, _ => none
 | k + 1, x3, x13, x14, x15 => if x15 < x14 then (if 0 ≤ x15 then (if x15 < (x13.length : Int) then (if x3.length + (rd_L2 x13 x15).length < 17592186044416 then (impl_counts.l0 k (x3 ++ (rd_L2 x13 x15)) x13 x14 (wrap64 (x15 + 1))) else (none)) else (none)) else (none)) else (some x3)
def impl_counts.f (k : Nat) (a0_0 : Int) (a0_1 : Int) (a0_2 : Int) (a0_3 : Int) (l0_4 : List Int) (l0_5 : List Int) (l0_6 : List (List Int)) : Option (List Int) := (impl_copyInts.f l0_4).bind fun t153 => (if t153.length + l0_5.length < 17592186044416 then (impl_counts.l0 k (t153 ++ l0_5) l0_6 (l0_6.length : Int) 0) else (none))
theorem impl_counts.mono_l : ∀ k, (∀ y0 y1 y2 y3, LeO (impl_counts.l0 k y0 y1 y2 y3) (impl_counts.l0 (k + 1) y0 y1 y2 y3))
 | 0 => fun _ _ _ _ r h => by simp [impl_counts.l0] at h
 | k + 1 => by
  have ih0 := impl_counts.mono_l k
  ·intro y0 y1 y2 y3
   unfold impl_counts.l0
   repeat' first
   | (with_reducible exact ih0 _ _ _ _)
   | (with_reducible exact LeO.refl _)
   | (with_reducible exact LeO.none _)
   | (with_reducible refine LeO.ite ?_ ?_)
   | (with_reducible refine LeO.bind ?_ (fun _ => ?_))
   | exact ih0 _ _ _ _
   | exact LeO.none _
   | refine LeO.ite ?_ ?_
   | refine LeO.bind ?_ (fun _ => ?_)
theorem impl_counts.mono : ∀ a0 a1 a2 a3 a4 a5 a6 k, LeO (impl_counts.f k a0 a1 a2 a3 a4 a5 a6) (impl_counts.f (k + 1) a0 a1 a2 a3 a4 a5 a6) := by
 intro a0 a1 a2 a3 a4 a5 a6 k
 have ih0 := impl_counts.mono_l k
 unfold impl_counts.f
 repeat' first
   | (with_reducible exact ih0 _ _ _ _)
   | (with_reducible exact LeO.refl _)
   | (with_reducible exact LeO.none _)
   | (with_reducible refine LeO.ite ?_ ?_)
   | (with_reducible refine LeO.bind ?_ (fun _ => ?_))
   | exact ih0 _ _ _ _
   | exact LeO.none _
   | refine LeO.ite ?_ ?_
   | refine LeO.bind ?_ (fun _ => ?_)
set_option maxHeartbeats 8000000 in
set_option maxRecDepth 100000 in
theorem impl_counts.calls (k : Nat) (a0_0 : Int) (a0_1 : Int) (a0_2 : Int) (a0_3 : Int) (A0_4 : Option Addr) (c0_4 : Nat) (l0_4 : List Int) (A0_5 : Option Addr) (c0_5 : Nat) (l0_5 : List Int) (A0_6 : Option Addr) (c0_6 : Nat) (l0_6 : List (List Int)) (r : List Int) (w : World) (hr0_4 : Kd.C (Kd.int .i64) w A0_4 l0_4.length l0_4) (hc0_4 : l0_4.length ≤ c0_4) (hr0_5 : Kd.C (Kd.int .i64) w A0_5 l0_5.length l0_5) (hc0_5 : l0_5.length ≤ c0_5) (hr0_6 : Kd.C (Kd.slice 3 (Kd.int .i64)) w A0_6 l0_6.length l0_6) (hc0_6 : l0_6.length ≤ c0_6) (h : impl_counts.f k a0_0 a0_1 a0_2 a0_3 l0_4 l0_5 l0_6 = some r) :
  Calls Try.prog 65 #[.agg #[.int .i64 a0_0, .int .i64 a0_1, .int .i64 a0_2, .int .i64 a0_3, .slice A0_4 l0_4.length c0_4, .slice A0_5 l0_5.length c0_5, .slice A0_6 l0_6.length c0_6]] w fun e w' => ∃ v0_ : Value, e = .returned (v0_) ∧ Kd.R (Kd.int .i64) 3 w' w.heap.size (fun _ => True) v0_ r ∧ Below w.heap.size w w' := by
 have hu27 := Try.underlying27
 have HR0_4 := Aside0.mk hr0_4
 have HC0_4 := Aside0.mk hc0_4
 clear hr0_4 hc0_4
 have HR0_5 := Aside0.mk hr0_5
 have HC0_5 := Aside0.mk hc0_5
 clear hr0_5 hc0_5
 have HR0_6 := Aside0.mk hr0_6
 have HC0_6 := Aside0.mk hc0_6
 clear hr0_6 hc0_6
 have HB := Aside0.mk (Below.refl w.heap.size w)
 have H : ((impl_copyInts.f l0_4).bind fun t153 => (if t153.length + l0_5.length < 17592186044416 then (impl_counts.l0 k (t153 ++ l0_5) l0_6 (l0_6.length : Int) 0) else (none))) = some r := h
 clear h
 replace H := Option.bind_eq_some_iff.mp H
 obtain ⟨t153, A20, H⟩ := H
 replace H : (if t153.length + l0_5.length < 17592186044416 then (impl_counts.l0 k (t153 ++ l0_5) l0_6 (l0_6.length : Int) 0) else (none)) = some r := H
 have A2 := Aside0.mk A20
 clear A20
 by_cases c3 : t153.length + l0_5.length < 17592186044416
 ·rw [if_pos c3] at H
  have LMc3 := Aside0.mk c3
  clear c3
  obtain ⟨y156, hy156⟩ : ∃ y_ : List Int, y_ = (t153 ++ l0_5) := ⟨_, rfl⟩
  replace H : (impl_counts.l0 k y156 l0_6 (l0_6.length : Int) 0) = some r := by first | (rw [hy156]; with_reducible exact H) | (have H2_ := (Option.bind_some _ _).symm.trans H; rw [hy156]; with_reducible exact H2_) | (have H2_ := (Option.bind_some _ _).symm.trans H; with_reducible exact H2_) | with_reducible exact H | (rw [hy156]; exact H) | exact H
  have Ny156 := Aside0.mk hy156
  clear hy156
  have H' := Aside0.mk H
  clear H
  go_enter Try.func65, Try.ntmps65
  try go_wp2_with (first | ((with_reducible refine gate_dst (N := 1) rfl ?_); refine box_event ?hg (N := 1) ?hd (cs := #[.int .i64 a0_0, .int .i64 a0_1, .int .i64 a0_2, .int .i64 a0_3, .slice A0_4 l0_4.length c0_4, .slice A0_5 l0_5.length c0_5, .slice A0_6 l0_6.length c0_6]) (t := 27) ?hr ?_; (case hd => rfl); (case hg => rfl); (case hr => first | (go_simp; done) | (go_simp; rfl)); intro gb152 hg w4 hbox hb; have n0_ := Aside0.mk (below_step Z3x0 hb); have n1_ := Aside0.mk (hbox); have n2_ := Aside0.mk ((Z3x6 : w.heap.size ≤ gb152)); have n3_ := Aside0.mk ((Z3x6 : w.heap.size ≤ gb152)); clear HB; have HB := n0_; have BK152 := n1_; have GW152 := n2_; have GE152 := n3_; clear n0_ n1_ n2_ n3_; clear hb hbox hg))
  have n0_ := Aside0.mk (blk_drew BK152.out)
  have n1_ := Aside0.mk (below_drew1 HB.out)
  clear BK152
  clear HB
  have BK152 := n0_
  have HB := n1_
  clear n0_ n1_
  refine start_ (n := 7) (S := fun w' => w'.cell? ⟨gb152, 0, none⟩ = some (.int .i64 a0_0) ∧ w'.cell? ⟨gb152, 1, none⟩ = some (.int .i64 a0_1) ∧ w'.cell? ⟨gb152, 2, none⟩ = some (.int .i64 a0_2) ∧ w'.cell? ⟨gb152, 3, none⟩ = some (.int .i64 a0_3) ∧ w'.cell? ⟨gb152, 4, none⟩ = some (.slice A0_4 l0_4.length c0_4) ∧ w'.cell? ⟨gb152, 5, none⟩ = some (.slice A0_5 l0_5.length c0_5) ∧ w'.cell? ⟨gb152, 6, none⟩ = some (.slice A0_6 l0_6.length c0_6)) (ds := []) #[false, false, false, false, false, false, false] (by kernel_rfl) rfl rfl ⟨(blk_cell BK152.out 0).trans rfl, (blk_cell BK152.out 1).trans rfl, (blk_cell BK152.out 2).trans rfl, (blk_cell BK152.out 3).trans rfl, (blk_cell BK152.out 4).trans rfl, (blk_cell BK152.out 5).trans rfl, (blk_cell BK152.out 6).trans rfl⟩ (fun hHeld => ?_)
  generalize w4.drew = w5 at BK152 HB hHeld ⊢
  refine pure_ (i := 0) (N := some 6) (v := ?_) (a' := ?_) #[true, false, false, false, false, false, false] rfl rfl (by kernel_rfl) (fun _ _ _ h => h) (Or.inl ⟨by rfl, ?_⟩) ?_ ?_
  rotate_left
  ·intro w'
   go_simp
   with_reducible rfl
  rotate_left
  ·simp only [czP]
   rfl
  refine pure_ (i := 3) (N := some 9) (v := ?_) (a' := ?_) #[true, false, false, true, false, false, false] rfl rfl (by kernel_rfl) (fun _ _ _ h => h) (Or.inl ⟨by rfl, ?_⟩) ?_ ?_
  rotate_left
  ·intro w'
   go_simp
   with_reducible rfl
  rotate_left
  ·simp only [czP]
   rfl
  refine take_ (i := 1) (N := some 7) (v := ?_) (a' := ?_) #[true, true, false, true, false, false, false] rfl rfl (by kernel_rfl) (fun _ _ _ h => h) (Or.inl ⟨by rfl, ?_⟩) hHeld ?_ ?_
  rotate_left
  ·rintro w' ⟨s0, s1, s2, s3, s4, s5, s6⟩
   go_simp
   with_reducible rfl
  rotate_left
  ·simp only [czP]
   rfl
  refine take_ (i := 4) (N := some 10) (v := ?_) (a' := ?_) #[true, true, false, true, true, false, false] rfl rfl (by kernel_rfl) (fun _ _ _ h => h) (Or.inl ⟨by rfl, ?_⟩) hHeld ?_ ?_
  rotate_left
  ·rintro w' ⟨s0, s1, s2, s3, s4, s5, s6⟩
   go_simp
   with_reducible rfl
  rotate_left
  ·simp only [czP]
   rfl
  refine one_ (i := 2) (N := some 8) #[true, true, true, true, true, false, false] rfl rfl (by kernel_rfl) (by decide) (fun K hK => ?_)
  refine goes_ Try.func71 (by kernel_rfl) rfl #[.slice A0_4 l0_4.length c0_4] (by rfl) rfl rfl (by (try simp only [List.map_toArray, List.map_cons, List.map_nil]); first | done | rfl | (simp only [List.length_drop, List.length_take]; rfl)) ?_
  with_reducible refine (impl_copyInts.calls _ _ l0_4 t153 _ ?side1 ?side2 A2.out).mono ?_
  (case side1 => repeat (first | exact (Kd.C_below HR0_4.out HB.out) | (with_reducible refine Kd.C_alloc ?_ _) | (with_reducible refine Kd.C_drewN ?_ _) | (with_reducible refine Kd.C_drew ?_)))
  (case side2 => exact HC0_4.out)
  rintro e w6 ⟨v154, rfl, ho0, hb⟩
  refine ⟨_, rfl, ?_⟩
  have n0_ := Aside0.mk (Kd.R_lower ho0 (below_size Z3x3))
  have n1_ := Aside0.mk (blk_below (g := gb152) (o := .cells #[.int .i64 a0_0, .int .i64 a0_1, .int .i64 a0_2, .int .i64 a0_3, .slice A0_4 l0_4.length c0_4, .slice A0_5 l0_5.length c0_5, .slice A0_6 l0_6.length c0_6] 27 (0, 0)) Z3x8 hb)
  have n2_ := Aside0.mk (below_step Z3x3 hb)
  clear BK152
  clear HB
  have HO155 := n0_
  have BK152 := n1_
  have HB := n2_
  clear n0_ n1_ n2_
  (try clear hb)
  (try clear hb2)
  (try clear hk)
  (try clear hi)
  (try clear ho0)
  refine hK.out _ _ ⟨(blk_cell BK152.out 0).trans rfl, (blk_cell BK152.out 1).trans rfl, (blk_cell BK152.out 2).trans rfl, (blk_cell BK152.out 3).trans rfl, (blk_cell BK152.out 4).trans rfl, (blk_cell BK152.out 5).trans rfl, (blk_cell BK152.out 6).trans rfl⟩ (fun hHeld => ?_)
  clear hK K
  refine norm_ (a' := ?_) ?_ ?_
  rotate_left
  ·show Act.put _ (some 8) _ = _
   simp only [czP]
   rfl
  refine one_ (i := 5) (N := some 11) #[true, true, true, true, true, true, false] rfl rfl (by kernel_rfl) (by decide) (fun K hK => ?_)
  refine Kd.R_append_rows_step (Kd.int .i64) (w0 := w) w.heap.size (by rfl) (.tmp 8) (.tmp 10) 24 3 (.int .i64 0) 8 rfl Try.underlying24 info3 rfl (by decide) (by omega) v154 t153 l0_5 _ _ _ (fun _ => True) (fun _ => False) rfl rfl ?aO ?aR (fun _ _ h => h) (fun _ h => h.elim) ?aF ?aB ?aS ?aL ?_
  (case aR => repeat (first | exact (Kd.C_below HR0_5.out HB.out) | (with_reducible refine Kd.C_alloc ?_ _) | (with_reducible refine Kd.C_drewN ?_ _) | (with_reducible refine Kd.C_drew ?_)))
  (case aB => exact Z3x3)
  (case aF => exact (fun _ _ => trivial))
  (case aO => exact (by (with_reducible repeat (first | apply Kd.R_alloc | apply Kd.R_drewN | apply Kd.R_drew)); exact HO155.out))
  (case aS => exact (below_size Z3x3))
  (case aL => have := LMc3.out; omega)
  intro v157 w7 ho hb hg hat
  rw [← Ny156.out] at ho
  have n0_ := Aside0.mk (blk_grown (g := gb152) (o := .cells #[.int .i64 a0_0, .int .i64 a0_1, .int .i64 a0_2, .int .i64 a0_3, .slice A0_4 l0_4.length c0_4, .slice A0_5 l0_5.length c0_5, .slice A0_6 l0_6.length c0_6] 27 (0, 0)) Z3x8 hg (Kd.R_ne HO155.out BK152.out (by decide)))
  have n1_ := Aside0.mk (hb)
  have n2_ := Aside0.mk (ho)
  clear BK152
  clear HB
  clear HO155
  have BK152 := n0_
  have HB := n1_
  have HO158 := n2_
  clear n0_ n1_ n2_
  clear ho hb hg hat
  refine hK.out _ _ ⟨(blk_cell BK152.out 0).trans rfl, (blk_cell BK152.out 1).trans rfl, (blk_cell BK152.out 2).trans rfl, (blk_cell BK152.out 3).trans rfl, (blk_cell BK152.out 4).trans rfl, (blk_cell BK152.out 5).trans rfl, (blk_cell BK152.out 6).trans rfl⟩ (fun hHeld => ?_)
  clear hK K
  refine norm_ (a' := ?_) ?_ ?_
  rotate_left
  ·show Act.put _ (some 11) _ = _
   simp only [czP]
   rfl
  refine pure_ (i := 6) (N := some 3) (v := ?_) (a' := ?_) #[true, true, true, true, true, true, true] rfl rfl (by kernel_rfl) (fun _ _ _ h => h) (Or.inl ⟨by rfl, ?_⟩) ?_ ?_
  rotate_left
  ·intro w'
   go_simp
   with_reducible rfl
  rotate_left
  ·simp only [czP]
   rfl
  refine done_ (by kernel_rfl) ?_
  obtain ⟨hcz8_0, hcz8_1, hcz8_2, hcz8_3, hcz8_4, hcz8_5, hcz8_6⟩ := cz7 BK152.out
  obtain ⟨hfz8_0, hfz8_1, hfz8_2, hfz8_3, hfz8_4, hfz8_5, hfz8_6⟩ := fz7 BK152.out
  try go_wp2
  go_loopg [3, 15] k (fun kq v3 v15 w' => ∃ (x3_1 : List Int) (x15_1 : Int), v15 = .int .i64 x15_1 ∧ Aside0 (impl_counts.l0 kq x3_1 l0_6 (l0_6.length : Int) x15_1 = some r) ∧ Aside0 (kq ≤ k) ∧ Aside0 (Kd.R (Kd.int .i64) 3 w' w.heap.size (fun _ => True) v3 x3_1) ∧ Aside0 (w'.heap[gb152]? = some (.cells #[.int .i64 a0_0, .int .i64 a0_1, .int .i64 a0_2, .int .i64 a0_3, (.slice A0_4 l0_4.length c0_4), (.slice A0_5 l0_5.length c0_5), (.slice A0_6 l0_6.length c0_6)] 27 (0, 0))) ∧ Aside0 (Below w.heap.size w w'))
  case atStart => exact ⟨(y156), (0), (by first | rfl | (simp; done) | (simp [*]; done)), H', ⟨Nat.le_refl _⟩, ⟨by (with_reducible repeat (first | apply Kd.R_alloc | apply Kd.R_drewN | apply Kd.R_drew)); exact HO158.out⟩, ⟨Z3x8⟩, ⟨Z3x3⟩⟩
  case round =>
   clear H'
   try clear p2
   try clear c3
   try clear c6
   try clear c7
   try clear hcz8_0 hcz8_1 hcz8_2 hcz8_3 hcz8_4 hcz8_5 hcz8_6
   try clear hfz8_0 hfz8_1 hfz8_2 hfz8_3 hfz8_4 hfz8_5 hfz8_6
   (try clear BK152)
   obtain ⟨x3_1, x15_1, rfl, HA, HK1, HO_3, BK152, HB⟩ := hrel
   cases gk with
   | zero => exact absurd HA.out (by simp [impl_counts.l0])
   | succ k1 =>
    have H := HA.out;clear HA;simp only [impl_counts.l0] at H
    by_cases c9 : x15_1 < (l0_6.length : Int)
    ·rw [if_pos c9] at H
     have c9b0 : decide (x15_1 < (l0_6.length : Int)) = true := decide_eq_true c9;clear c9
     by_cases c10 : 0 ≤ x15_1
     ·rw [if_pos c10] at H
      have c10b0 : decide (0 ≤ x15_1) = true := decide_eq_true c10;clear c10
      by_cases c11 : x15_1 < (l0_6.length : Int)
      ·rw [if_pos c11] at H
       have c11b0 : decide (x15_1 < (l0_6.length : Int)) = true := decide_eq_true c11;clear c11
       by_cases c12 : x3_1.length + (rd_L2 l0_6 x15_1).length < 17592186044416
       ·rw [if_pos c12] at H
        have LMc12 := Aside0.mk c12;clear c12;obtain ⟨y160, hy160⟩ : ∃ y_ : List Int, y_ = (x3_1 ++ (rd_L2 l0_6 x15_1)) := ⟨_, rfl⟩
        replace H : (impl_counts.l0 k1 y160 l0_6 (l0_6.length : Int) (wrap64 (x15_1 + 1))) = some r := by first | (rw [hy160]; with_reducible exact H) | (have H2_ := (Option.bind_some _ _).symm.trans H; rw [hy160]; with_reducible exact H2_) | (have H2_ := (Option.bind_some _ _).symm.trans H; with_reducible exact H2_) | with_reducible exact H | (rw [hy160]; exact H) | exact H
        have Ny160 := Aside0.mk hy160;clear hy160;have H' := Aside0.mk H;clear H;have p159 : 0 ≤ (x15_1 : Int) := of_decide_eq_true Z3x4;have q159 : x15_1 < (l0_6.length : Int) := of_decide_eq_true Z3x4;obtain ⟨ad159, A159_0, c159_0, e159, hx159_0, hl159_0, hi159_0⟩ := at_L2 HR0_6.out x15_1 p159 q159
        cases e159
        replace hx159_0 := czB HB.out hx159_0;have HR159_0 := Aside0.mk hi159_0;have HC159_0 := Aside0.mk hl159_0;clear hi159_0 hl159_0;replace p159 := eq_true p159;replace q159 := eq_true q159
        go_wp2_with (first | ((with_reducible refine gate_builtin (b := .append) (xs := #[.tmp 19, .tmp 20]) rfl ?_); at_builtin; refine Kd.R_append_rows (Kd.int .i64) (w0 := w) w.heap.size rfl (.tmp 19) (.tmp 20) 24 3 (.int .i64 0) 8 rfl Try.underlying24 info3 rfl (by decide) (by omega) u3 x3_1 (rd_L2 l0_6 x15_1) _ _ _ (fun _ => True) (fun _ => False) rfl rfl ?aO ?aR (fun _ _ h => h) (fun _ h => h.elim) ?aF ?aB ?aS ?aL ?_; (case aR => repeat (first | exact (Kd.C_below HR159_0.out HB.out) | (with_reducible refine Kd.C_alloc ?_ _) | (with_reducible refine Kd.C_drewN ?_ _) | (with_reducible refine Kd.C_drew ?_))); (case aB => exact Z3x3); (case aF => exact (fun _ _ => trivial)); (case aO => exact (by (with_reducible repeat (first | apply Kd.R_alloc | apply Kd.R_drewN | apply Kd.R_drew)); exact HO_3.out)); (case aS => exact (below_size Z3x3)); (case aL => have := LMc12.out; omega); intro v161 w13 ho hb hg hat; rw [← Ny160.out] at ho; have n0_ := Aside0.mk (blk_grown (g := gb152) (o := .cells #[.int .i64 a0_0, .int .i64 a0_1, .int .i64 a0_2, .int .i64 a0_3, .slice A0_4 l0_4.length c0_4, .slice A0_5 l0_5.length c0_5, .slice (some ad159) l0_6.length c0_6] 27 (0, 0)) Z3x8 hg (Kd.R_ne HO_3.out BK152.out (by decide))); have n1_ := Aside0.mk (hb); have n2_ := Aside0.mk (ho); clear BK152; clear HB; clear HO_3; have BK152 := n0_; have HB := n1_; have HO162 := n2_; clear n0_ n1_ n2_; clear ho hb hg hat))
        go_roundg k1
        case measure => have := HK1.out; omega
        case rel => exact ⟨(y160), (wrap64 (x15_1 + 1)), (by first | rfl | (simp; done) | (simp [*]; done)), H', ⟨by have := HK1.out; omega⟩, ⟨by (with_reducible repeat (first | apply Kd.R_alloc | apply Kd.R_drewN | apply Kd.R_drew)); exact HO162.out⟩, ⟨Z3x8⟩, ⟨Z3x3⟩⟩
       ·rw [if_neg c12] at H
        exact absurd H (by simp)
      ·rw [if_neg c11] at H
       exact absurd H (by simp)
     ·rw [if_neg c10] at H
      exact absurd H (by simp)
    ·rw [if_neg c9] at H
     have c9b0 : decide (x15_1 < (l0_6.length : Int)) = false := decide_eq_false c9;clear c9;obtain rfl := Option.some.inj H;simp only [Option.some.injEq, Prod.mk.injEq] at H;obtain ⟨rfl⟩ := H
     go_wp2
     go_ret
     exact ⟨_, Z3x9, by (with_reducible repeat (first | apply Kd.R_alloc | apply Kd.R_drewN | apply Kd.R_drew)); exact HO_3.out, Z3x3⟩
 ·rw [if_neg c3] at H
  exact absurd H (by simp)

end Go.Proofs.Ytdciagkholijlaa.PFnExactEntryAdd
