-- Written by this session's changed copy of the kit's printer (wip/patch_print.py): not the kit's own print.
import Derived.Test.YtfknjoebomicnaaPFnExactMergex0
import Derived.Test.YtfknjoebomicnaaPFnExactMergex3
import Derived.Test.YtfknjoebomicnaaPFnExactMergex4
import Derived.Test.YtfknjoebomicnaaPFnExactMergex5d
namespace Go.Proofs.Ytfknjoebomicnaa.PFnExactMerge
open Go.RowKit Go.Proofs.YtfknjoebomicnaaW.PrintWords Go.Proofs.YtfknjoebomicnaaW.PrintLast Go.Proofs.YtfknjoebomicnaaW.PrintMore
attribute [local go_sem] max2_int min2_int max_two min_two max_three min_three max_four min_four   -- for this text's walks alone
set_option linter.unusedVariables false
set_option linter.unusedSimpArgs false
set_option maxHeartbeats 8000000 in
set_option maxRecDepth 100000 in
theorem spec_l3Merge.calls (k : Nat) (a0_0 : Int) (a0_1 : Int) (a0_2 : Int) (a0_3 : Int) (A0_4 : Option Addr) (c0_4 : Nat) (l0_4 : List Int) (A0_5 : Option Addr) (c0_5 : Nat) (l0_5 : List Int) (A0_6 : Option Addr) (c0_6 : Nat) (l0_6 : List (List Int)) (a1_0 : Int) (a1_1 : Int) (a1_2 : Int) (a1_3 : Int) (A1_4 : Option Addr) (c1_4 : Nat) (l1_4 : List Int) (A1_5 : Option Addr) (c1_5 : Nat) (l1_5 : List Int) (A1_6 : Option Addr) (c1_6 : Nat) (l1_6 : List (List Int)) (r1 : Int) (r2 : Int) (r3 : Int) (r4 : Int) (r5 : List Int) (r6 : List Int) (r7 : List (List Int)) (w : World) (hr0_4 : Kd.C (Kd.int .i64) w A0_4 l0_4.length l0_4) (hc0_4 : l0_4.length ≤ c0_4) (hr0_5 : Kd.C (Kd.int .i64) w A0_5 l0_5.length l0_5) (hc0_5 : l0_5.length ≤ c0_5) (hr0_6 : Kd.C (Kd.slice 3 (Kd.int .i64)) w A0_6 l0_6.length l0_6) (hc0_6 : l0_6.length ≤ c0_6) (hr1_4 : Kd.C (Kd.int .i64) w A1_4 l1_4.length l1_4) (hc1_4 : l1_4.length ≤ c1_4) (hr1_5 : Kd.C (Kd.int .i64) w A1_5 l1_5.length l1_5) (hc1_5 : l1_5.length ≤ c1_5) (hr1_6 : Kd.C (Kd.slice 3 (Kd.int .i64)) w A1_6 l1_6.length l1_6) (hc1_6 : l1_6.length ≤ c1_6) (h : spec_l3Merge.f k a0_0 a0_1 a0_2 a0_3 l0_4 l0_5 l0_6 a1_0 a1_1 a1_2 a1_3 l1_4 l1_5 l1_6 = some (r1, r2, r3, r4, r5, r6, r7)) :
  Calls Try.prog 51 #[.agg #[.int .i64 a0_0, .int .i64 a0_1, .int .i64 a0_2, .int .i64 a0_3, .slice A0_4 l0_4.length c0_4, .slice A0_5 l0_5.length c0_5, .slice A0_6 l0_6.length c0_6], .agg #[.int .i64 a1_0, .int .i64 a1_1, .int .i64 a1_2, .int .i64 a1_3, .slice A1_4 l1_4.length c1_4, .slice A1_5 l1_5.length c1_5, .slice A1_6 l1_6.length c1_6]] w fun e w' => ∃ v4_ v5_ v6_ : Value, e = .returned (.agg #[.int .i64 r1, .int .i64 r2, .int .i64 r3, .int .i64 r4, v4_, v5_, v6_]) ∧ Kd.R (Kd.int .i64) 3 w' w.heap.size (fun k_ => (w.heap.size ≤ k_) ∧ some k_ ≠ (v5_ : Value).ownBlock) v4_ r5 ∧ Kd.R (Kd.int .i64) 3 w' w.heap.size (fun k_ => (w.heap.size ≤ k_) ∧ some k_ ≠ (v4_ : Value).ownBlock) v5_ r6 ∧ Kd.N (Kd.slice 3 (Kd.int .i64)) 23 w' w.heap.size (fun k_ => (w.heap.size ≤ k_) ∧ some k_ ≠ (v4_ : Value).ownBlock ∧ some k_ ≠ (v5_ : Value).ownBlock) v6_ r7 ∧ Below w.heap.size w w' := by
 have hu26 := Try.underlying26
 have HR0_4 := Aside0.mk hr0_4
 have HC0_4 := Aside0.mk hc0_4
 clear hr0_4 hc0_4
 have HR0_5 := Aside0.mk hr0_5
 have HC0_5 := Aside0.mk hc0_5
 clear hr0_5 hc0_5
 have HR0_6 := Aside0.mk hr0_6
 have HC0_6 := Aside0.mk hc0_6
 clear hr0_6 hc0_6
 have HR1_4 := Aside0.mk hr1_4
 have HC1_4 := Aside0.mk hc1_4
 clear hr1_4 hc1_4
 have HR1_5 := Aside0.mk hr1_5
 have HC1_5 := Aside0.mk hc1_5
 clear hr1_5 hc1_5
 have HR1_6 := Aside0.mk hr1_6
 have HC1_6 := Aside0.mk hc1_6
 clear hr1_6 hc1_6
 have HB := Aside0.mk (Below.refl w.heap.size w)
 have H : ((spec_Add.f a0_0 a1_0).bind fun t162 => ((spec_Add.f a0_1 a1_1).bind fun t163 => ((spec_l1Min.f a0_2 a1_2).bind fun t164 => ((spec_l1Max.f a0_3 a1_3).bind fun t165 => ((spec_l3Sum.f k l0_4 l1_4).bind fun t166 => (if 0 < (l0_6.length : Int) then (if 0 < (l1_6.length : Int) then ((spec_l3Sum.f k (rd_L1 l0_6 0) (rd_L1 l1_6 0)).bind fun t171 => (if 1 < (l0_6.length : Int) then (if 1 < (l1_6.length : Int) then ((spec_l3Sum.f k (rd_L1 l0_6 1) (rd_L1 l1_6 1)).bind fun t176 => ((some (([t171, t176] : List (List Int)) : List (List Int))).bind fun y179 => (if a0_0 = 0 then (spec_l3Merge.j0 k a0_0 a0_1 a0_2 a0_3 l0_4 l0_5 l0_6 a1_0 a1_1 a1_2 a1_3 l1_4 l1_5 l1_6 t162 t163 a1_2 t165 t166 y179) else (spec_l3Merge.j0 k a0_0 a0_1 a0_2 a0_3 l0_4 l0_5 l0_6 a1_0 a1_1 a1_2 a1_3 l1_4 l1_5 l1_6 t162 t163 t164 t165 t166 y179)))) else (none)) else (none))) else (none)) else (none))))))) = some (r1, r2, r3, r4, r5, r6, r7) := h
 clear h
 replace H := Option.bind_eq_some_iff.mp H
 obtain ⟨t162, A30, H⟩ := H
 replace H : ((spec_Add.f a0_1 a1_1).bind fun t163 => ((spec_l1Min.f a0_2 a1_2).bind fun t164 => ((spec_l1Max.f a0_3 a1_3).bind fun t165 => ((spec_l3Sum.f k l0_4 l1_4).bind fun t166 => (if 0 < (l0_6.length : Int) then (if 0 < (l1_6.length : Int) then ((spec_l3Sum.f k (rd_L1 l0_6 0) (rd_L1 l1_6 0)).bind fun t171 => (if 1 < (l0_6.length : Int) then (if 1 < (l1_6.length : Int) then ((spec_l3Sum.f k (rd_L1 l0_6 1) (rd_L1 l1_6 1)).bind fun t176 => ((some (([t171, t176] : List (List Int)) : List (List Int))).bind fun y179 => (if a0_0 = 0 then (spec_l3Merge.j0 k a0_0 a0_1 a0_2 a0_3 l0_4 l0_5 l0_6 a1_0 a1_1 a1_2 a1_3 l1_4 l1_5 l1_6 t162 t163 a1_2 t165 t166 y179) else (spec_l3Merge.j0 k a0_0 a0_1 a0_2 a0_3 l0_4 l0_5 l0_6 a1_0 a1_1 a1_2 a1_3 l1_4 l1_5 l1_6 t162 t163 t164 t165 t166 y179)))) else (none)) else (none))) else (none)) else (none)))))) = some (r1, r2, r3, r4, r5, r6, r7) := H
 have A3 := Aside0.mk A30
 clear A30
 replace H := Option.bind_eq_some_iff.mp H
 obtain ⟨t163, A40, H⟩ := H
 replace H : ((spec_l1Min.f a0_2 a1_2).bind fun t164 => ((spec_l1Max.f a0_3 a1_3).bind fun t165 => ((spec_l3Sum.f k l0_4 l1_4).bind fun t166 => (if 0 < (l0_6.length : Int) then (if 0 < (l1_6.length : Int) then ((spec_l3Sum.f k (rd_L1 l0_6 0) (rd_L1 l1_6 0)).bind fun t171 => (if 1 < (l0_6.length : Int) then (if 1 < (l1_6.length : Int) then ((spec_l3Sum.f k (rd_L1 l0_6 1) (rd_L1 l1_6 1)).bind fun t176 => ((some (([t171, t176] : List (List Int)) : List (List Int))).bind fun y179 => (if a0_0 = 0 then (spec_l3Merge.j0 k a0_0 a0_1 a0_2 a0_3 l0_4 l0_5 l0_6 a1_0 a1_1 a1_2 a1_3 l1_4 l1_5 l1_6 t162 t163 a1_2 t165 t166 y179) else (spec_l3Merge.j0 k a0_0 a0_1 a0_2 a0_3 l0_4 l0_5 l0_6 a1_0 a1_1 a1_2 a1_3 l1_4 l1_5 l1_6 t162 t163 t164 t165 t166 y179)))) else (none)) else (none))) else (none)) else (none))))) = some (r1, r2, r3, r4, r5, r6, r7) := H
 have A4 := Aside0.mk A40
 clear A40
 replace H := Option.bind_eq_some_iff.mp H
 obtain ⟨t164, A50, H⟩ := H
 replace H : ((spec_l1Max.f a0_3 a1_3).bind fun t165 => ((spec_l3Sum.f k l0_4 l1_4).bind fun t166 => (if 0 < (l0_6.length : Int) then (if 0 < (l1_6.length : Int) then ((spec_l3Sum.f k (rd_L1 l0_6 0) (rd_L1 l1_6 0)).bind fun t171 => (if 1 < (l0_6.length : Int) then (if 1 < (l1_6.length : Int) then ((spec_l3Sum.f k (rd_L1 l0_6 1) (rd_L1 l1_6 1)).bind fun t176 => ((some (([t171, t176] : List (List Int)) : List (List Int))).bind fun y179 => (if a0_0 = 0 then (spec_l3Merge.j0 k a0_0 a0_1 a0_2 a0_3 l0_4 l0_5 l0_6 a1_0 a1_1 a1_2 a1_3 l1_4 l1_5 l1_6 t162 t163 a1_2 t165 t166 y179) else (spec_l3Merge.j0 k a0_0 a0_1 a0_2 a0_3 l0_4 l0_5 l0_6 a1_0 a1_1 a1_2 a1_3 l1_4 l1_5 l1_6 t162 t163 t164 t165 t166 y179)))) else (none)) else (none))) else (none)) else (none)))) = some (r1, r2, r3, r4, r5, r6, r7) := H
 have A5 := Aside0.mk A50
 clear A50
 replace H := Option.bind_eq_some_iff.mp H
 obtain ⟨t165, A60, H⟩ := H
 replace H : ((spec_l3Sum.f k l0_4 l1_4).bind fun t166 => (if 0 < (l0_6.length : Int) then (if 0 < (l1_6.length : Int) then ((spec_l3Sum.f k (rd_L1 l0_6 0) (rd_L1 l1_6 0)).bind fun t171 => (if 1 < (l0_6.length : Int) then (if 1 < (l1_6.length : Int) then ((spec_l3Sum.f k (rd_L1 l0_6 1) (rd_L1 l1_6 1)).bind fun t176 => ((some (([t171, t176] : List (List Int)) : List (List Int))).bind fun y179 => (if a0_0 = 0 then (spec_l3Merge.j0 k a0_0 a0_1 a0_2 a0_3 l0_4 l0_5 l0_6 a1_0 a1_1 a1_2 a1_3 l1_4 l1_5 l1_6 t162 t163 a1_2 t165 t166 y179) else (spec_l3Merge.j0 k a0_0 a0_1 a0_2 a0_3 l0_4 l0_5 l0_6 a1_0 a1_1 a1_2 a1_3 l1_4 l1_5 l1_6 t162 t163 t164 t165 t166 y179)))) else (none)) else (none))) else (none)) else (none))) = some (r1, r2, r3, r4, r5, r6, r7) := H
 have A6 := Aside0.mk A60
 clear A60
 replace H := Option.bind_eq_some_iff.mp H
 obtain ⟨t166, A70, H⟩ := H
 replace H : (if 0 < (l0_6.length : Int) then (if 0 < (l1_6.length : Int) then ((spec_l3Sum.f k (rd_L1 l0_6 0) (rd_L1 l1_6 0)).bind fun t171 => (if 1 < (l0_6.length : Int) then (if 1 < (l1_6.length : Int) then ((spec_l3Sum.f k (rd_L1 l0_6 1) (rd_L1 l1_6 1)).bind fun t176 => ((some (([t171, t176] : List (List Int)) : List (List Int))).bind fun y179 => (if a0_0 = 0 then (spec_l3Merge.j0 k a0_0 a0_1 a0_2 a0_3 l0_4 l0_5 l0_6 a1_0 a1_1 a1_2 a1_3 l1_4 l1_5 l1_6 t162 t163 a1_2 t165 t166 y179) else (spec_l3Merge.j0 k a0_0 a0_1 a0_2 a0_3 l0_4 l0_5 l0_6 a1_0 a1_1 a1_2 a1_3 l1_4 l1_5 l1_6 t162 t163 t164 t165 t166 y179)))) else (none)) else (none))) else (none)) else (none)) = some (r1, r2, r3, r4, r5, r6, r7) := H
 have A7 := Aside0.mk A70
 clear A70
 by_cases c8 : 0 < (l0_6.length : Int)
 ·rw [if_pos c8] at H
  have c8b0 : decide (0 < (l0_6.length : Int)) = true := decide_eq_true c8
  (try (have c8b1 : decide (0 < l0_6.length) = true := decide_eq_true (by omega)))
  (try (have c8b2 : (0 < l0_6.length) = True := eq_true (by omega)))
  have c8b3 : decide (0 < l0_6.length) = true := decide_eq_true (by omega)
  clear c8
  by_cases c9 : 0 < (l1_6.length : Int)
  ·rw [if_pos c9] at H
   have c9b0 : decide (0 < (l1_6.length : Int)) = true := decide_eq_true c9
   (try (have c9b1 : decide (0 < l1_6.length) = true := decide_eq_true (by omega)))
   (try (have c9b2 : (0 < l1_6.length) = True := eq_true (by omega)))
   have c9b3 : decide (0 < l1_6.length) = true := decide_eq_true (by omega)
   clear c9
   replace H := Option.bind_eq_some_iff.mp H
   obtain ⟨t171, A100, H⟩ := H
   replace H : (if 1 < (l0_6.length : Int) then (if 1 < (l1_6.length : Int) then ((spec_l3Sum.f k (rd_L1 l0_6 1) (rd_L1 l1_6 1)).bind fun t176 => ((some (([t171, t176] : List (List Int)) : List (List Int))).bind fun y179 => (if a0_0 = 0 then (spec_l3Merge.j0 k a0_0 a0_1 a0_2 a0_3 l0_4 l0_5 l0_6 a1_0 a1_1 a1_2 a1_3 l1_4 l1_5 l1_6 t162 t163 a1_2 t165 t166 y179) else (spec_l3Merge.j0 k a0_0 a0_1 a0_2 a0_3 l0_4 l0_5 l0_6 a1_0 a1_1 a1_2 a1_3 l1_4 l1_5 l1_6 t162 t163 t164 t165 t166 y179)))) else (none)) else (none)) = some (r1, r2, r3, r4, r5, r6, r7) := H
   have A10 := Aside0.mk A100
   clear A100
   by_cases c11 : 1 < (l0_6.length : Int)
   ·rw [if_pos c11] at H
    have c11b0 : decide (1 < (l0_6.length : Int)) = true := decide_eq_true c11
    (try (have c11b1 : decide (1 < l0_6.length) = true := decide_eq_true (by omega)))
    (try (have c11b2 : (1 < l0_6.length) = True := eq_true (by omega)))
    have c11b3 : decide (1 < l0_6.length) = true := decide_eq_true (by omega);clear c11
    by_cases c12 : 1 < (l1_6.length : Int)
    ·rw [if_pos c12] at H
     have c12b0 : decide (1 < (l1_6.length : Int)) = true := decide_eq_true c12
     (try (have c12b1 : decide (1 < l1_6.length) = true := decide_eq_true (by omega)))
     (try (have c12b2 : (1 < l1_6.length) = True := eq_true (by omega)))
     have c12b3 : decide (1 < l1_6.length) = true := decide_eq_true (by omega);clear c12;replace H := Option.bind_eq_some_iff.mp H;obtain ⟨t176, A130, H⟩ := H;replace H : ((some (([t171, t176] : List (List Int)) : List (List Int))).bind fun y179 => (if a0_0 = 0 then (spec_l3Merge.j0 k a0_0 a0_1 a0_2 a0_3 l0_4 l0_5 l0_6 a1_0 a1_1 a1_2 a1_3 l1_4 l1_5 l1_6 t162 t163 a1_2 t165 t166 y179) else (spec_l3Merge.j0 k a0_0 a0_1 a0_2 a0_3 l0_4 l0_5 l0_6 a1_0 a1_1 a1_2 a1_3 l1_4 l1_5 l1_6 t162 t163 t164 t165 t166 y179))) = some (r1, r2, r3, r4, r5, r6, r7) := H;have A13 := Aside0.mk A130;clear A130;obtain ⟨y179, hy179⟩ : ∃ y_ : List (List Int), y_ = (([t171, t176] : List (List Int))) := ⟨_, rfl⟩
     replace H : (if a0_0 = 0 then (spec_l3Merge.j0 k a0_0 a0_1 a0_2 a0_3 l0_4 l0_5 l0_6 a1_0 a1_1 a1_2 a1_3 l1_4 l1_5 l1_6 t162 t163 a1_2 t165 t166 y179) else (spec_l3Merge.j0 k a0_0 a0_1 a0_2 a0_3 l0_4 l0_5 l0_6 a1_0 a1_1 a1_2 a1_3 l1_4 l1_5 l1_6 t162 t163 t164 t165 t166 y179)) = some (r1, r2, r3, r4, r5, r6, r7) := by first | (rw [hy179]; with_reducible exact H) | (have H2_ := (Option.bind_some _ _).symm.trans H; rw [hy179]; with_reducible exact H2_) | (have H2_ := (Option.bind_some _ _).symm.trans H; with_reducible exact H2_) | with_reducible exact H | (rw [hy179]; exact H) | exact H
     have Ny179 := Aside0.mk hy179;clear hy179;have HC14 := Aside0.mk H;clear H
     go_enter Try.func51, Try.ntmps51
     try go_wp2_with (first | ((with_reducible refine gate_dst (N := 2) rfl ?_); refine box_event ?hg (N := 2) ?hd (cs := #[.int .i64 a0_0, .int .i64 a0_1, .int .i64 a0_2, .int .i64 a0_3, .slice A0_4 l0_4.length c0_4, .slice A0_5 l0_5.length c0_5, .slice A0_6 l0_6.length c0_6]) (t := 26) ?hr ?_; (case hd => rfl); (case hg => rfl); (case hr => first | (go_simp; done) | (go_simp; rfl)); intro gb159 hg w15 hbox hb; have n0_ := Aside0.mk (below_step Z5x25 hb); have n1_ := Aside0.mk (hbox); have n2_ := Aside0.mk ((by rw [hg]; exact (below_size Z5x25) : w.heap.size ≤ gb159)); have n3_ := Aside0.mk ((by rw [hg]; exact (below_size Z5x25) : w.heap.size ≤ gb159)); clear HB; have HB := n0_; have BK159 := n1_; have GW159 := n2_; have GE159 := n3_; clear n0_ n1_ n2_ n3_; clear hb hbox hg) | ((with_reducible refine gate_dst (N := 3) rfl ?_); refine box_event ?hg (N := 3) ?hd (cs := #[.int .i64 a1_0, .int .i64 a1_1, .int .i64 a1_2, .int .i64 a1_3, .slice A1_4 l1_4.length c1_4, .slice A1_5 l1_5.length c1_5, .slice A1_6 l1_6.length c1_6]) (t := 26) ?hr ?_; (case hd => rfl); (case hg => rfl); (case hr => first | (go_simp; done) | (go_simp; rfl)); intro gb160 hg w16 hbox hb; have n0_ := Aside0.mk (blk_below (g := gb159) (o := .cells #[.int .i64 a0_0, .int .i64 a0_1, .int .i64 a0_2, .int .i64 a0_3, .slice A0_4 l0_4.length c0_4, .slice A0_5 l0_5.length c0_5, .slice A0_6 l0_6.length c0_6] 26 (0, 0)) Z5x2 hb); have n1_ := Aside0.mk (below_step Z5x23 hb); have n2_ := Aside0.mk (hbox); have n3_ := Aside0.mk ((by rw [hg]; exact (below_size Z5x23) : w.heap.size ≤ gb160)); have n4_ := Aside0.mk ((by rw [hg]; exact (below_size Z5x23) : w.heap.size ≤ gb160)); have n5_ := Aside0.mk ((Z5x29 : gb159 ≠ gb160)); have n6_ := Aside0.mk ((Z5x30 : gb160 ≠ gb159)); clear BK159; clear HB; have BK159 := n0_; have HB := n1_; have BK160 := n2_; have GW160 := n3_; have GE160 := n4_; have NB159_160 := n5_; have NB160_159 := n6_; clear n0_ n1_ n2_ n3_ n4_ n5_ n6_; clear hb hbox hg) | ((with_reducible refine gate_dst (N := 4) rfl ?_); refine box_event ?hg (N := 4) ?hd (cs := #[.int .i64 0, .int .i64 0, .int .i64 0, .int .i64 0, .slice none 0 0, .slice none 0 0, .slice none 0 0]) (t := 26) ?hr ?_; (case hd => rfl); (case hg => rfl); (case hr => first | (go_simp; done) | (go_simp; rfl)); intro gb161 hg w17 hbox hb; have n0_ := Aside0.mk (blk_below (g := gb159) (o := .cells #[.int .i64 a0_0, .int .i64 a0_1, .int .i64 a0_2, .int .i64 a0_3, .slice A0_4 l0_4.length c0_4, .slice A0_5 l0_5.length c0_5, .slice A0_6 l0_6.length c0_6] 26 (0, 0)) Z5x2 hb); have n1_ := Aside0.mk (blk_below (g := gb160) (o := .cells #[.int .i64 a1_0, .int .i64 a1_1, .int .i64 a1_2, .int .i64 a1_3, .slice A1_4 l1_4.length c1_4, .slice A1_5 l1_5.length c1_5, .slice A1_6 l1_6.length c1_6] 26 (0, 0)) Z5x3 hb); have n2_ := Aside0.mk (below_step Z5x22 hb); have n3_ := Aside0.mk (hbox); have n4_ := Aside0.mk ((by rw [hg]; exact (below_size Z5x22) : w.heap.size ≤ gb161)); have n5_ := Aside0.mk ((by rw [hg]; exact (below_size Z5x22) : w.heap.size ≤ gb161)); have n6_ := Aside0.mk ((Z5x29 : gb159 ≠ gb161)); have n7_ := Aside0.mk ((Z5x30 : gb161 ≠ gb159)); have n8_ := Aside0.mk ((by rw [hg]; exact Nat.ne_of_lt (blk_lt (g := gb160) (o := .cells #[.int .i64 a1_0, .int .i64 a1_1, .int .i64 a1_2, .int .i64 a1_3, .slice A1_4 l1_4.length c1_4, .slice A1_5 l1_5.length c1_5, .slice A1_6 l1_6.length c1_6] 26 (0, 0)) Z5x3) : gb160 ≠ gb161)); have n9_ := Aside0.mk ((by rw [hg]; exact Nat.ne_of_gt (blk_lt (g := gb160) (o := .cells #[.int .i64 a1_0, .int .i64 a1_1, .int .i64 a1_2, .int .i64 a1_3, .slice A1_4 l1_4.length c1_4, .slice A1_5 l1_5.length c1_5, .slice A1_6 l1_6.length c1_6] 26 (0, 0)) Z5x3) : gb161 ≠ gb160)); clear BK159; clear BK160; clear HB; have BK159 := n0_; have BK160 := n1_; have HB := n2_; have BK161 := n3_; have GW161 := n4_; have GE161 := n5_; have NB159_161 := n6_; have NB161_159 := n7_; have NB160_161 := n8_; have NB161_160 := n9_; clear n0_ n1_ n2_ n3_ n4_ n5_ n6_ n7_ n8_ n9_; clear hb hbox hg))
     have n0_ := Aside0.mk (blk_drew BK159.out);have n1_ := Aside0.mk (blk_drew BK160.out);have n2_ := Aside0.mk (blk_drew BK161.out);have n3_ := Aside0.mk (below_drew1 HB.out);clear BK159;clear BK160;clear BK161;clear HB;have BK159 := n0_;have BK160 := n1_;have BK161 := n2_;have HB := n3_;clear n0_ n1_ n2_ n3_;have p169 : 0 ≤ (0 : Int) := (by omega);have q169 : 0 < (l0_6.length : Int) := of_decide_eq_true Z5x24;obtain ⟨ad169, A169_0, c169_0, e169, hx169_0, hl169_0, hi169_0⟩ := at_L1 HR0_6.out 0 p169 q169;have hw169_0 := hx169_0
     (try rw [show ((0 : Int)).toNat = 0 from rfl] at hw169_0)
     (try rw [show 0 * 1 = 0 from rfl] at hw169_0)
     (try rw [Addr.add_zero'] at hw169_0)
     cases e169
     have qi169 : (0 < l0_6.length) = True := eq_true (by omega)
     (try rw [show ((0 : Int)).toNat = 0 from rfl] at hx169_0)
     (try rw [Addr.add_zero'] at hx169_0)
     replace hx169_0 := (HB.out.cell (World.block_lt_of_cell? w _ hx169_0)).trans hx169_0;have HR169_0 := Aside0.mk hi169_0;have HC169_0 := Aside0.mk hl169_0;clear hi169_0 hl169_0;replace p169 := eq_true p169;replace q169 := eq_true q169;have p170 : 0 ≤ (0 : Int) := (by omega);have q170 : 0 < (l1_6.length : Int) := of_decide_eq_true Z5x24;obtain ⟨ad170, A170_0, c170_0, e170, hx170_0, hl170_0, hi170_0⟩ := at_L1 HR1_6.out 0 p170 q170;have hw170_0 := hx170_0
     (try rw [show ((0 : Int)).toNat = 0 from rfl] at hw170_0)
     (try rw [show 0 * 1 = 0 from rfl] at hw170_0)
     (try rw [Addr.add_zero'] at hw170_0)
     cases e170
     have qi170 : (0 < l1_6.length) = True := eq_true (by omega)
     (try rw [show ((0 : Int)).toNat = 0 from rfl] at hx170_0)
     (try rw [Addr.add_zero'] at hx170_0)
     replace hx170_0 := (HB.out.cell (World.block_lt_of_cell? w _ hx170_0)).trans hx170_0;have HR170_0 := Aside0.mk hi170_0;have HC170_0 := Aside0.mk hl170_0;clear hi170_0 hl170_0;replace p170 := eq_true p170;replace q170 := eq_true q170;have p174 : 0 ≤ (1 : Int) := (by omega);have q174 : 1 < (l0_6.length : Int) := of_decide_eq_true Z5x24;obtain ⟨ad174, A174_0, c174_0, e174, hx174_0, hl174_0, hi174_0⟩ := at_L1 HR0_6.out 1 p174 q174;have hw174_0 := hx174_0
     (try rw [show ((1 : Int)).toNat = 1 from rfl] at hw174_0)
     (try rw [show 1 * 1 = 1 from rfl] at hw174_0)
     (try simp only [Nat.reduceMul, Nat.reduceEqDiff, Go.Addr.add, ↓reduceIte] at hw174_0)
     obtain rfl : ad169 = ad174 := (by injection e174)
     (try simp only [show (1 : Int).toNat = 1 from rfl, Nat.reduceMul, Nat.reduceEqDiff, Go.Addr.add, ↓reduceIte] at hx174_0)
     have qi174 : (1 < l0_6.length) = True := eq_true (by omega)
     (try rw [show ((1 : Int)).toNat = 1 from rfl] at hx174_0)
     replace hx174_0 := (HB.out.cell (World.block_lt_of_cell? w _ hx174_0)).trans hx174_0;have HR174_0 := Aside0.mk hi174_0;have HC174_0 := Aside0.mk hl174_0;clear hi174_0 hl174_0;replace p174 := eq_true p174;replace q174 := eq_true q174;have p175 : 0 ≤ (1 : Int) := (by omega);have q175 : 1 < (l1_6.length : Int) := of_decide_eq_true Z5x24;obtain ⟨ad175, A175_0, c175_0, e175, hx175_0, hl175_0, hi175_0⟩ := at_L1 HR1_6.out 1 p175 q175;have hw175_0 := hx175_0
     (try rw [show ((1 : Int)).toNat = 1 from rfl] at hw175_0)
     (try rw [show 1 * 1 = 1 from rfl] at hw175_0)
     (try simp only [Nat.reduceMul, Nat.reduceEqDiff, Go.Addr.add, ↓reduceIte] at hw175_0)
     obtain rfl : ad170 = ad175 := (by injection e175)
     (try simp only [show (1 : Int).toNat = 1 from rfl, Nat.reduceMul, Nat.reduceEqDiff, Go.Addr.add, ↓reduceIte] at hx175_0)
     have qi175 : (1 < l1_6.length) = True := eq_true (by omega)
     (try rw [show ((1 : Int)).toNat = 1 from rfl] at hx175_0)
     replace hx175_0 := (HB.out.cell (World.block_lt_of_cell? w _ hx175_0)).trans hx175_0;have HR175_0 := Aside0.mk hi175_0;have HC175_0 := Aside0.mk hl175_0;clear hi175_0 hl175_0;replace p175 := eq_true p175;replace q175 := eq_true q175;refine start_ (n := 47) (S := fun w' => w'.cell? ⟨gb159, 0, none⟩ = some (.int .i64 a0_0) ∧ w'.cell? ⟨gb159, 1, none⟩ = some (.int .i64 a0_1) ∧ w'.cell? ⟨gb159, 2, none⟩ = some (.int .i64 a0_2) ∧ w'.cell? ⟨gb159, 3, none⟩ = some (.int .i64 a0_3) ∧ w'.cell? ⟨gb159, 4, none⟩ = some (.slice A0_4 l0_4.length c0_4) ∧ w'.cell? ⟨gb159, 5, none⟩ = some (.slice A0_5 l0_5.length c0_5) ∧ w'.cell? ⟨gb159, 6, none⟩ = some (.slice (some ad169) l0_6.length c0_6) ∧ w'.cell? ⟨gb160, 0, none⟩ = some (.int .i64 a1_0) ∧ w'.cell? ⟨gb160, 1, none⟩ = some (.int .i64 a1_1) ∧ w'.cell? ⟨gb160, 2, none⟩ = some (.int .i64 a1_2) ∧ w'.cell? ⟨gb160, 3, none⟩ = some (.int .i64 a1_3) ∧ w'.cell? ⟨gb160, 4, none⟩ = some (.slice A1_4 l1_4.length c1_4) ∧ w'.cell? ⟨gb160, 5, none⟩ = some (.slice A1_5 l1_5.length c1_5) ∧ w'.cell? ⟨gb160, 6, none⟩ = some (.slice (some ad170) l1_6.length c1_6) ∧ w'.cell? ad169 = some (.slice A169_0 (rd_L1 l0_6 0).length c169_0) ∧ w'.cell? ad170 = some (.slice A170_0 (rd_L1 l1_6 0).length c170_0) ∧ w'.cell? ⟨ad169.block, ad169.off + 1, none⟩ = some (.slice A174_0 (rd_L1 l0_6 1).length c174_0) ∧ w'.cell? ⟨ad170.block, ad170.off + 1, none⟩ = some (.slice A175_0 (rd_L1 l1_6 1).length c175_0)) (ds := []) #[false, false, false, false, false, false, false, false, false, false, false, false, false, false, false, false, false, false, false, false, false, false, false, false, false, false, false, false, false, false, false, false, false, false, false, false, false, false, false, false, false, false, false, false, false, false, false] (by kernel_rfl) rfl rfl (Z5q BK159.out BK160.out ((HB.out.cell (World.block_lt_of_cell? w _ hw169_0)).trans hw169_0) ((HB.out.cell (World.block_lt_of_cell? w _ hw170_0)).trans hw170_0) ((HB.out.cell (World.block_lt_of_cell? w _ hw174_0)).trans hw174_0) ((HB.out.cell (World.block_lt_of_cell? w _ hw175_0)).trans hw175_0)) (fun hHeld => ?_); refine with_tabW spec_l3Merge.tab1 spec_l3Merge.bits1 (fun HT_ HW_ => ?_);generalize w17.drew = w18 at BK159 BK160 BK161 HB HR169_0 HR170_0 HR174_0 HR175_0 hx169_0 hx170_0 hx174_0 hx175_0 hHeld ⊢;refine pure_ (i := 0) (N := some 7) (v := ?_) (a' := ?_) #[true, false, false, false, false, false, false, false, false, false, false, false, false, false, false, false, false, false, false, false, false, false, false, false, false, false, false, false, false, false, false, false, false, false, false, false, false, false, false, false, false, false, false, false, false, false, false] rfl rfl (any_of HT_.out (by kernel_rfl)) (fun _ _ _ h => h) (Or.inl ⟨by rfl, ?_⟩) ?_ ?_
     rotate_left
     ·intro w'
      go_simp
      with_reducible rfl
     rotate_left
     ·simp only [Act.put, List.setIfInBounds_toArray, List.set_cons_zero, List.set_cons_succ, i64_w, i32_w]
      rfl
     refine pure_ (i := 2) (N := some 9) (v := ?_) (a' := ?_) #[true, false, true, false, false, false, false, false, false, false, false, false, false, false, false, false, false, false, false, false, false, false, false, false, false, false, false, false, false, false, false, false, false, false, false, false, false, false, false, false, false, false, false, false, false, false, false] rfl rfl (any_of HT_.out (by kernel_rfl)) (fun _ _ _ h => h) (Or.inl ⟨by rfl, ?_⟩) ?_ ?_
     rotate_left
     ·intro w'
      go_simp
      with_reducible rfl
     rotate_left
     ·simp only [Act.put, List.setIfInBounds_toArray, List.set_cons_zero, List.set_cons_succ, i64_w, i32_w]
      rfl
     refine pure_ (i := 5) (N := some 12) (v := ?_) (a' := ?_) #[true, false, true, false, false, true, false, false, false, false, false, false, false, false, false, false, false, false, false, false, false, false, false, false, false, false, false, false, false, false, false, false, false, false, false, false, false, false, false, false, false, false, false, false, false, false, false] rfl rfl (any_of HT_.out (by kernel_rfl)) (fun _ _ _ h => h) (Or.inl ⟨by rfl, ?_⟩) ?_ ?_
     rotate_left
     ·intro w'
      go_simp
      with_reducible rfl
     rotate_left
     ·simp only [Act.put, List.setIfInBounds_toArray, List.set_cons_zero, List.set_cons_succ, i64_w, i32_w]
      rfl
     refine pure_ (i := 7) (N := some 14) (v := ?_) (a' := ?_) #[true, false, true, false, false, true, false, true, false, false, false, false, false, false, false, false, false, false, false, false, false, false, false, false, false, false, false, false, false, false, false, false, false, false, false, false, false, false, false, false, false, false, false, false, false, false, false] rfl rfl (any_of HT_.out (by kernel_rfl)) (fun _ _ _ h => h) (Or.inl ⟨by rfl, ?_⟩) ?_ ?_
     rotate_left
     ·intro w'
      go_simp
      with_reducible rfl
     rotate_left
     ·simp only [Act.put, List.setIfInBounds_toArray, List.set_cons_zero, List.set_cons_succ, i64_w, i32_w]
      rfl
     refine pure_ (i := 10) (N := some 17) (v := ?_) (a' := ?_) #[true, false, true, false, false, true, false, true, false, false, true, false, false, false, false, false, false, false, false, false, false, false, false, false, false, false, false, false, false, false, false, false, false, false, false, false, false, false, false, false, false, false, false, false, false, false, false] rfl rfl (any_of HT_.out (by kernel_rfl)) (fun _ _ _ h => h) (Or.inl ⟨by rfl, ?_⟩) ?_ ?_
     rotate_left
     ·intro w'
      go_simp
      with_reducible rfl
     rotate_left
     ·simp only [Act.put, List.setIfInBounds_toArray, List.set_cons_zero, List.set_cons_succ, i64_w, i32_w]
      rfl
     refine pure_ (i := 12) (N := some 19) (v := ?_) (a' := ?_) #[true, false, true, false, false, true, false, true, false, false, true, false, true, false, false, false, false, false, false, false, false, false, false, false, false, false, false, false, false, false, false, false, false, false, false, false, false, false, false, false, false, false, false, false, false, false, false] rfl rfl (any_of HT_.out (by kernel_rfl)) (fun _ _ _ h => h) (Or.inl ⟨by rfl, ?_⟩) ?_ ?_
     rotate_left
     ·intro w'
      go_simp
      with_reducible rfl
     rotate_left
     ·simp only [Act.put, List.setIfInBounds_toArray, List.set_cons_zero, List.set_cons_succ, i64_w, i32_w]
      rfl
     refine pure_ (i := 15) (N := some 22) (v := ?_) (a' := ?_) #[true, false, true, false, false, true, false, true, false, false, true, false, true, false, false, true, false, false, false, false, false, false, false, false, false, false, false, false, false, false, false, false, false, false, false, false, false, false, false, false, false, false, false, false, false, false, false] rfl rfl (any_of HT_.out (by kernel_rfl)) (fun _ _ _ h => h) (Or.inl ⟨by rfl, ?_⟩) ?_ ?_
     rotate_left
     ·intro w'
      go_simp
      with_reducible rfl
     rotate_left
     ·simp only [Act.put, List.setIfInBounds_toArray, List.set_cons_zero, List.set_cons_succ, i64_w, i32_w]
      rfl
     refine pure_ (i := 17) (N := some 24) (v := ?_) (a' := ?_) #[true, false, true, false, false, true, false, true, false, false, true, false, true, false, false, true, false, true, false, false, false, false, false, false, false, false, false, false, false, false, false, false, false, false, false, false, false, false, false, false, false, false, false, false, false, false, false] rfl rfl (any_of HT_.out (by kernel_rfl)) (fun _ _ _ h => h) (Or.inl ⟨by rfl, ?_⟩) ?_ ?_
     rotate_left
     ·intro w'
      go_simp
      with_reducible rfl
     rotate_left
     ·simp only [Act.put, List.setIfInBounds_toArray, List.set_cons_zero, List.set_cons_succ, i64_w, i32_w]
      rfl
     refine pure_ (i := 20) (N := some 27) (v := ?_) (a' := ?_) #[true, false, true, false, false, true, false, true, false, false, true, false, true, false, false, true, false, true, false, false, true, false, false, false, false, false, false, false, false, false, false, false, false, false, false, false, false, false, false, false, false, false, false, false, false, false, false] rfl rfl (any_of HT_.out (by kernel_rfl)) (fun _ _ _ h => h) (Or.inl ⟨by rfl, ?_⟩) ?_ ?_
     rotate_left
     ·intro w'
      go_simp
      with_reducible rfl
     rotate_left
     ·simp only [Act.put, List.setIfInBounds_toArray, List.set_cons_zero, List.set_cons_succ, i64_w, i32_w]
      rfl
     refine pure_ (i := 22) (N := some 29) (v := ?_) (a' := ?_) #[true, false, true, false, false, true, false, true, false, false, true, false, true, false, false, true, false, true, false, false, true, false, true, false, false, false, false, false, false, false, false, false, false, false, false, false, false, false, false, false, false, false, false, false, false, false, false] rfl rfl (any_of HT_.out (by kernel_rfl)) (fun _ _ _ h => h) (Or.inl ⟨by rfl, ?_⟩) ?_ ?_
     rotate_left
     ·intro w'
      go_simp
      with_reducible rfl
     rotate_left
     ·simp only [Act.put, List.setIfInBounds_toArray, List.set_cons_zero, List.set_cons_succ, i64_w, i32_w]
      rfl
     refine pure_ (i := 25) (N := some 32) (v := ?_) (a' := ?_) #[true, false, true, false, false, true, false, true, false, false, true, false, true, false, false, true, false, true, false, false, true, false, true, false, false, true, false, false, false, false, false, false, false, false, false, false, false, false, false, false, false, false, false, false, false, false, false] rfl rfl (any_of HT_.out (by kernel_rfl)) (fun _ _ _ h => h) (Or.inl ⟨by rfl, ?_⟩) ?_ ?_
     rotate_left
     ·intro w'
      go_simp
      with_reducible rfl
     rotate_left
     ·simp only [Act.put, List.setIfInBounds_toArray, List.set_cons_zero, List.set_cons_succ, i64_w, i32_w]
      rfl
     refine pure_ (i := 29) (N := some 36) (v := ?_) (a' := ?_) #[true, false, true, false, false, true, false, true, false, false, true, false, true, false, false, true, false, true, false, false, true, false, true, false, false, true, false, false, false, true, false, false, false, false, false, false, false, false, false, false, false, false, false, false, false, false, false] rfl rfl (any_of HT_.out (by kernel_rfl)) (fun _ _ _ h => h) (Or.inl ⟨by rfl, ?_⟩) ?_ ?_
     rotate_left
     ·intro w'
      go_simp
      with_reducible rfl
     rotate_left
     ·simp only [Act.put, List.setIfInBounds_toArray, List.set_cons_zero, List.set_cons_succ, i64_w, i32_w]
      rfl
     refine pure_ (i := 34) (N := some 41) (v := ?_) (a' := ?_) #[true, false, true, false, false, true, false, true, false, false, true, false, true, false, false, true, false, true, false, false, true, false, true, false, false, true, false, false, false, true, false, false, false, false, true, false, false, false, false, false, false, false, false, false, false, false, false] rfl rfl (any_of HT_.out (by kernel_rfl)) (fun _ _ _ h => h) (Or.inl ⟨by rfl, ?_⟩) ?_ ?_
     rotate_left
     ·intro w'
      go_simp
      with_reducible rfl
     rotate_left
     ·simp only [Act.put, List.setIfInBounds_toArray, List.set_cons_zero, List.set_cons_succ, i64_w, i32_w]
      rfl
     refine pure_ (i := 38) (N := some 45) (v := ?_) (a' := ?_) #[true, false, true, false, false, true, false, true, false, false, true, false, true, false, false, true, false, true, false, false, true, false, true, false, false, true, false, false, false, true, false, false, false, false, true, false, false, false, true, false, false, false, false, false, false, false, false] rfl rfl (any_of HT_.out (by kernel_rfl)) (fun _ _ _ h => h) (Or.inl ⟨by rfl, ?_⟩) ?_ ?_
     rotate_left
     ·intro w'
      go_simp
      with_reducible rfl
     rotate_left
     ·simp only [Act.put, List.setIfInBounds_toArray, List.set_cons_zero, List.set_cons_succ, i64_w, i32_w]
      rfl
     refine take_ (i := 1) (N := some 8) (v := ?_) (a' := ?_) #[true, true, true, false, false, true, false, true, false, false, true, false, true, false, false, true, false, true, false, false, true, false, true, false, false, true, false, false, false, true, false, false, false, false, true, false, false, false, true, false, false, false, false, false, false, false, false] rfl rfl (take_ofW HT_.out HW_.out (by kernel_rfl)) (fun _ _ _ h => h) (Or.inl ⟨by rfl, ?_⟩) hHeld ?_ ?_
     rotate_left
     ·rintro w' ⟨s0, s1, s2, s3, s4, s5, s6, s7, s8, s9, s10, s11, s12, s13, s14, s15, s16, s17⟩
      go_simp
      with_reducible rfl
     rotate_left
     ·simp only [Act.put, List.setIfInBounds_toArray, List.set_cons_zero, List.set_cons_succ, i64_w, i32_w]
      rfl
     refine take_ (i := 3) (N := some 10) (v := ?_) (a' := ?_) #[true, true, true, true, false, true, false, true, false, false, true, false, true, false, false, true, false, true, false, false, true, false, true, false, false, true, false, false, false, true, false, false, false, false, true, false, false, false, true, false, false, false, false, false, false, false, false] rfl rfl (take_ofW HT_.out HW_.out (by kernel_rfl)) (fun _ _ _ h => h) (Or.inl ⟨by rfl, ?_⟩) hHeld ?_ ?_
     rotate_left
     ·rintro w' ⟨s0, s1, s2, s3, s4, s5, s6, s7, s8, s9, s10, s11, s12, s13, s14, s15, s16, s17⟩
      go_simp
      with_reducible rfl
     rotate_left
     ·simp only [Act.put, List.setIfInBounds_toArray, List.set_cons_zero, List.set_cons_succ, i64_w, i32_w]
      rfl
     refine take_ (i := 6) (N := some 13) (v := ?_) (a' := ?_) #[true, true, true, true, false, true, true, true, false, false, true, false, true, false, false, true, false, true, false, false, true, false, true, false, false, true, false, false, false, true, false, false, false, false, true, false, false, false, true, false, false, false, false, false, false, false, false] rfl rfl (take_ofW HT_.out HW_.out (by kernel_rfl)) (fun _ _ _ h => h) (Or.inl ⟨by rfl, ?_⟩) hHeld ?_ ?_
     rotate_left
     ·rintro w' ⟨s0, s1, s2, s3, s4, s5, s6, s7, s8, s9, s10, s11, s12, s13, s14, s15, s16, s17⟩
      go_simp
      with_reducible rfl
     rotate_left
     ·simp only [Act.put, List.setIfInBounds_toArray, List.set_cons_zero, List.set_cons_succ, i64_w, i32_w]
      rfl
     refine take_ (i := 8) (N := some 15) (v := ?_) (a' := ?_) #[true, true, true, true, false, true, true, true, true, false, true, false, true, false, false, true, false, true, false, false, true, false, true, false, false, true, false, false, false, true, false, false, false, false, true, false, false, false, true, false, false, false, false, false, false, false, false] rfl rfl (take_ofW HT_.out HW_.out (by kernel_rfl)) (fun _ _ _ h => h) (Or.inl ⟨by rfl, ?_⟩) hHeld ?_ ?_
     rotate_left
     ·rintro w' ⟨s0, s1, s2, s3, s4, s5, s6, s7, s8, s9, s10, s11, s12, s13, s14, s15, s16, s17⟩
      go_simp
      with_reducible rfl
     rotate_left
     ·simp only [Act.put, List.setIfInBounds_toArray, List.set_cons_zero, List.set_cons_succ, i64_w, i32_w]
      rfl
     refine take_ (i := 11) (N := some 18) (v := ?_) (a' := ?_) #[true, true, true, true, false, true, true, true, true, false, true, true, true, false, false, true, false, true, false, false, true, false, true, false, false, true, false, false, false, true, false, false, false, false, true, false, false, false, true, false, false, false, false, false, false, false, false] rfl rfl (take_ofW HT_.out HW_.out (by kernel_rfl)) (fun _ _ _ h => h) (Or.inl ⟨by rfl, ?_⟩) hHeld ?_ ?_
     rotate_left
     ·rintro w' ⟨s0, s1, s2, s3, s4, s5, s6, s7, s8, s9, s10, s11, s12, s13, s14, s15, s16, s17⟩
      go_simp
      with_reducible rfl
     rotate_left
     ·simp only [Act.put, List.setIfInBounds_toArray, List.set_cons_zero, List.set_cons_succ, i64_w, i32_w]
      rfl
     refine take_ (i := 13) (N := some 20) (v := ?_) (a' := ?_) #[true, true, true, true, false, true, true, true, true, false, true, true, true, true, false, true, false, true, false, false, true, false, true, false, false, true, false, false, false, true, false, false, false, false, true, false, false, false, true, false, false, false, false, false, false, false, false] rfl rfl (take_ofW HT_.out HW_.out (by kernel_rfl)) (fun _ _ _ h => h) (Or.inl ⟨by rfl, ?_⟩) hHeld ?_ ?_
     rotate_left
     ·rintro w' ⟨s0, s1, s2, s3, s4, s5, s6, s7, s8, s9, s10, s11, s12, s13, s14, s15, s16, s17⟩
      go_simp
      with_reducible rfl
     rotate_left
     ·simp only [Act.put, List.setIfInBounds_toArray, List.set_cons_zero, List.set_cons_succ, i64_w, i32_w]
      rfl
     refine take_ (i := 16) (N := some 23) (v := ?_) (a' := ?_) #[true, true, true, true, false, true, true, true, true, false, true, true, true, true, false, true, true, true, false, false, true, false, true, false, false, true, false, false, false, true, false, false, false, false, true, false, false, false, true, false, false, false, false, false, false, false, false] rfl rfl (take_ofW HT_.out HW_.out (by kernel_rfl)) (fun _ _ _ h => h) (Or.inl ⟨by rfl, ?_⟩) hHeld ?_ ?_
     rotate_left
     ·rintro w' ⟨s0, s1, s2, s3, s4, s5, s6, s7, s8, s9, s10, s11, s12, s13, s14, s15, s16, s17⟩
      go_simp
      with_reducible rfl
     rotate_left
     ·simp only [Act.put, List.setIfInBounds_toArray, List.set_cons_zero, List.set_cons_succ, i64_w, i32_w]
      rfl
     refine take_ (i := 18) (N := some 25) (v := ?_) (a' := ?_) #[true, true, true, true, false, true, true, true, true, false, true, true, true, true, false, true, true, true, true, false, true, false, true, false, false, true, false, false, false, true, false, false, false, false, true, false, false, false, true, false, false, false, false, false, false, false, false] rfl rfl (take_ofW HT_.out HW_.out (by kernel_rfl)) (fun _ _ _ h => h) (Or.inl ⟨by rfl, ?_⟩) hHeld ?_ ?_
     rotate_left
     ·rintro w' ⟨s0, s1, s2, s3, s4, s5, s6, s7, s8, s9, s10, s11, s12, s13, s14, s15, s16, s17⟩
      go_simp
      with_reducible rfl
     rotate_left
     ·simp only [Act.put, List.setIfInBounds_toArray, List.set_cons_zero, List.set_cons_succ, i64_w, i32_w]
      rfl
     refine take_ (i := 21) (N := some 28) (v := ?_) (a' := ?_) #[true, true, true, true, false, true, true, true, true, false, true, true, true, true, false, true, true, true, true, false, true, true, true, false, false, true, false, false, false, true, false, false, false, false, true, false, false, false, true, false, false, false, false, false, false, false, false] rfl rfl (take_ofW HT_.out HW_.out (by kernel_rfl)) (fun _ _ _ h => h) (Or.inl ⟨by rfl, ?_⟩) hHeld ?_ ?_
     rotate_left
     ·rintro w' ⟨s0, s1, s2, s3, s4, s5, s6, s7, s8, s9, s10, s11, s12, s13, s14, s15, s16, s17⟩
      go_simp
      with_reducible rfl
     rotate_left
     ·simp only [Act.put, List.setIfInBounds_toArray, List.set_cons_zero, List.set_cons_succ, i64_w, i32_w]
      rfl
     refine take_ (i := 23) (N := some 30) (v := ?_) (a' := ?_) #[true, true, true, true, false, true, true, true, true, false, true, true, true, true, false, true, true, true, true, false, true, true, true, true, false, true, false, false, false, true, false, false, false, false, true, false, false, false, true, false, false, false, false, false, false, false, false] rfl rfl (take_ofW HT_.out HW_.out (by kernel_rfl)) (fun _ _ _ h => h) (Or.inl ⟨by rfl, ?_⟩) hHeld ?_ ?_
     rotate_left
     ·rintro w' ⟨s0, s1, s2, s3, s4, s5, s6, s7, s8, s9, s10, s11, s12, s13, s14, s15, s16, s17⟩
      go_simp
      with_reducible rfl
     rotate_left
     ·simp only [Act.put, List.setIfInBounds_toArray, List.set_cons_zero, List.set_cons_succ, i64_w, i32_w]
      rfl
     refine take_ (i := 26) (N := some 33) (v := ?_) (a' := ?_) #[true, true, true, true, false, true, true, true, true, false, true, true, true, true, false, true, true, true, true, false, true, true, true, true, false, true, true, false, false, true, false, false, false, false, true, false, false, false, true, false, false, false, false, false, false, false, false] rfl rfl (take_ofW HT_.out HW_.out (by kernel_rfl)) (fun _ _ _ h => h) (Or.inl ⟨by rfl, ?_⟩) hHeld ?_ ?_
     rotate_left
     ·rintro w' ⟨s0, s1, s2, s3, s4, s5, s6, s7, s8, s9, s10, s11, s12, s13, s14, s15, s16, s17⟩
      go_simp
      with_reducible rfl
     rotate_left
     ·simp only [Act.put, List.setIfInBounds_toArray, List.set_cons_zero, List.set_cons_succ, i64_w, i32_w]
      rfl
     refine pure_ (i := 27) (N := some 34) (v := ?_) (a' := ?_) #[true, true, true, true, false, true, true, true, true, false, true, true, true, true, false, true, true, true, true, false, true, true, true, true, false, true, true, true, false, true, false, false, false, false, true, false, false, false, true, false, false, false, false, false, false, false, false] rfl rfl (any_of HT_.out (by kernel_rfl)) (fun _ _ _ h => h) (Or.inl ⟨by rfl, ?_⟩) ?_ ?_
     rotate_left
     ·intro w'
      go_simp
      with_reducible rfl
     rotate_left
     ·simp only [Act.put, List.setIfInBounds_toArray, List.set_cons_zero, List.set_cons_succ, i64_w, i32_w]
      rfl
     refine take_ (i := 28) (N := some 35) (v := ?_) (a' := ?_) #[true, true, true, true, false, true, true, true, true, false, true, true, true, true, false, true, true, true, true, false, true, true, true, true, false, true, true, true, true, true, false, false, false, false, true, false, false, false, true, false, false, false, false, false, false, false, false] rfl rfl (take_ofW HT_.out HW_.out (by kernel_rfl)) (fun _ _ _ h => h) (Or.inl ⟨by rfl, ?_⟩) hHeld ?_ ?_
     rotate_left
     ·rintro w' ⟨s0, s1, s2, s3, s4, s5, s6, s7, s8, s9, s10, s11, s12, s13, s14, s15, s16, s17⟩
      go_simp
      with_reducible rfl
     rotate_left
     ·simp only [Act.put, List.setIfInBounds_toArray, List.set_cons_zero, List.set_cons_succ, i64_w, i32_w]
      rfl
     refine take_ (i := 30) (N := some 37) (v := ?_) (a' := ?_) #[true, true, true, true, false, true, true, true, true, false, true, true, true, true, false, true, true, true, true, false, true, true, true, true, false, true, true, true, true, true, true, false, false, false, true, false, false, false, true, false, false, false, false, false, false, false, false] rfl rfl (take_ofW HT_.out HW_.out (by kernel_rfl)) (fun _ _ _ h => h) (Or.inl ⟨by rfl, ?_⟩) hHeld ?_ ?_
     rotate_left
     ·rintro w' ⟨s0, s1, s2, s3, s4, s5, s6, s7, s8, s9, s10, s11, s12, s13, s14, s15, s16, s17⟩
      go_simp
      with_reducible rfl
     rotate_left
     ·simp only [Act.put, List.setIfInBounds_toArray, List.set_cons_zero, List.set_cons_succ, i64_w, i32_w]
      rfl
     refine pure_ (i := 31) (N := some 38) (v := ?_) (a' := ?_) #[true, true, true, true, false, true, true, true, true, false, true, true, true, true, false, true, true, true, true, false, true, true, true, true, false, true, true, true, true, true, true, true, false, false, true, false, false, false, true, false, false, false, false, false, false, false, false] rfl rfl (any_of HT_.out (by kernel_rfl)) (fun _ _ _ h => h) (Or.inl ⟨by rfl, ?_⟩) ?_ ?_
     rotate_left
     ·intro w'
      go_simp
      with_reducible rfl
     rotate_left
     ·simp only [Act.put, List.setIfInBounds_toArray, List.set_cons_zero, List.set_cons_succ, i64_w, i32_w]
      rfl
     refine take_ (i := 32) (N := some 39) (v := ?_) (a' := ?_) #[true, true, true, true, false, true, true, true, true, false, true, true, true, true, false, true, true, true, true, false, true, true, true, true, false, true, true, true, true, true, true, true, true, false, true, false, false, false, true, false, false, false, false, false, false, false, false] rfl rfl (take_ofW HT_.out HW_.out (by kernel_rfl)) (fun _ _ _ h => h) (Or.inl ⟨by rfl, ?_⟩) hHeld ?_ ?_
     rotate_left
     ·rintro w' ⟨s0, s1, s2, s3, s4, s5, s6, s7, s8, s9, s10, s11, s12, s13, s14, s15, s16, s17⟩
      go_simp
      with_reducible rfl
     rotate_left
     ·simp only [Act.put, List.setIfInBounds_toArray, List.set_cons_zero, List.set_cons_succ, i64_w, i32_w]
      rfl
     refine take_ (i := 35) (N := some 42) (v := ?_) (a' := ?_) #[true, true, true, true, false, true, true, true, true, false, true, true, true, true, false, true, true, true, true, false, true, true, true, true, false, true, true, true, true, true, true, true, true, false, true, true, false, false, true, false, false, false, false, false, false, false, false] rfl rfl (take_ofW HT_.out HW_.out (by kernel_rfl)) (fun _ _ _ h => h) (Or.inl ⟨by rfl, ?_⟩) hHeld ?_ ?_
     rotate_left
     ·rintro w' ⟨s0, s1, s2, s3, s4, s5, s6, s7, s8, s9, s10, s11, s12, s13, s14, s15, s16, s17⟩
      go_simp
      with_reducible rfl
     rotate_left
     ·simp only [Act.put, List.setIfInBounds_toArray, List.set_cons_zero, List.set_cons_succ, i64_w, i32_w]
      rfl
     refine pure_ (i := 36) (N := some 43) (v := ?_) (a' := ?_) #[true, true, true, true, false, true, true, true, true, false, true, true, true, true, false, true, true, true, true, false, true, true, true, true, false, true, true, true, true, true, true, true, true, false, true, true, true, false, true, false, false, false, false, false, false, false, false] rfl rfl (any_of HT_.out (by kernel_rfl)) (fun _ _ _ h => h) (Or.inl ⟨by rfl, ?_⟩) ?_ ?_
     rotate_left
     ·intro w'
      go_simp
      with_reducible rfl
     rotate_left
     ·simp only [Act.put, List.setIfInBounds_toArray, List.set_cons_zero, List.set_cons_succ, i64_w, i32_w]
      rfl
     refine take_ (i := 37) (N := some 44) (v := ?_) (a' := ?_) #[true, true, true, true, false, true, true, true, true, false, true, true, true, true, false, true, true, true, true, false, true, true, true, true, false, true, true, true, true, true, true, true, true, false, true, true, true, true, true, false, false, false, false, false, false, false, false] rfl rfl (take_ofW HT_.out HW_.out (by kernel_rfl)) (fun _ _ _ h => h) (Or.inl ⟨by rfl, ?_⟩) hHeld ?_ ?_
     rotate_left
     ·rintro w' ⟨s0, s1, s2, s3, s4, s5, s6, s7, s8, s9, s10, s11, s12, s13, s14, s15, s16, s17⟩
      go_simp
      with_reducible rfl
     rotate_left
     ·simp only [Act.put, List.setIfInBounds_toArray, List.set_cons_zero, List.set_cons_succ, i64_w, i32_w]
      rfl
     refine take_ (i := 39) (N := some 46) (v := ?_) (a' := ?_) #[true, true, true, true, false, true, true, true, true, false, true, true, true, true, false, true, true, true, true, false, true, true, true, true, false, true, true, true, true, true, true, true, true, false, true, true, true, true, true, true, false, false, false, false, false, false, false] rfl rfl (take_ofW HT_.out HW_.out (by kernel_rfl)) (fun _ _ _ h => h) (Or.inl ⟨by rfl, ?_⟩) hHeld ?_ ?_
     rotate_left
     ·rintro w' ⟨s0, s1, s2, s3, s4, s5, s6, s7, s8, s9, s10, s11, s12, s13, s14, s15, s16, s17⟩
      go_simp
      with_reducible rfl
     rotate_left
     ·simp only [Act.put, List.setIfInBounds_toArray, List.set_cons_zero, List.set_cons_succ, i64_w, i32_w]
      rfl
     refine pure_ (i := 40) (N := some 47) (v := ?_) (a' := ?_) #[true, true, true, true, false, true, true, true, true, false, true, true, true, true, false, true, true, true, true, false, true, true, true, true, false, true, true, true, true, true, true, true, true, false, true, true, true, true, true, true, true, false, false, false, false, false, false] rfl rfl (any_of HT_.out (by kernel_rfl)) (fun _ _ _ h => h) (Or.inl ⟨by rfl, ?_⟩) ?_ ?_
     rotate_left
     ·intro w'
      go_simp
      with_reducible rfl
     rotate_left
     ·simp only [Act.put, List.setIfInBounds_toArray, List.set_cons_zero, List.set_cons_succ, i64_w, i32_w]
      rfl
     refine take_ (i := 41) (N := some 48) (v := ?_) (a' := ?_) #[true, true, true, true, false, true, true, true, true, false, true, true, true, true, false, true, true, true, true, false, true, true, true, true, false, true, true, true, true, true, true, true, true, false, true, true, true, true, true, true, true, true, false, false, false, false, false] rfl rfl (take_ofW HT_.out HW_.out (by kernel_rfl)) (fun _ _ _ h => h) (Or.inl ⟨by rfl, ?_⟩) hHeld ?_ ?_
     rotate_left
     ·rintro w' ⟨s0, s1, s2, s3, s4, s5, s6, s7, s8, s9, s10, s11, s12, s13, s14, s15, s16, s17⟩
      go_simp
      with_reducible rfl
     rotate_left
     ·simp only [Act.put, List.setIfInBounds_toArray, List.set_cons_zero, List.set_cons_succ, i64_w, i32_w]
      rfl
     refine join_ (σ := Value × Value × Value × Value × Nat) 1 #[true, true, true, true, true, true, true, true, true, true, true, true, true, true, true, true, true, true, true, true, true, true, true, true, true, true, true, true, true, true, true, true, true, true, true, true, true, true, true, true, true, true, true, true, true, true, false] (fun s_ => [(11, .int .i64 t162), (16, .int .i64 t163), (21, .int .i64 t164), (26, .int .i64 t165), (31, s_.1), (40, s_.2.1), (49, s_.2.2.1), (50, s_.2.2.2.1), (5, .pointer (some ⟨s_.2.2.2.2, 0, none⟩)), (51, .agg #[.int .i64 t162, .int .i64 t163, .int .i64 t164, .int .i64 t165, s_.1, .slice none 0 0, s_.2.2.2.1])]) (fun s_ w' => (w'.cell? ⟨gb159, 0, none⟩ = some (.int .i64 a0_0) ∧ w'.cell? ⟨gb159, 1, none⟩ = some (.int .i64 a0_1) ∧ w'.cell? ⟨gb159, 2, none⟩ = some (.int .i64 a0_2) ∧ w'.cell? ⟨gb159, 3, none⟩ = some (.int .i64 a0_3) ∧ w'.cell? ⟨gb159, 4, none⟩ = some (.slice A0_4 l0_4.length c0_4) ∧ w'.cell? ⟨gb159, 5, none⟩ = some (.slice A0_5 l0_5.length c0_5) ∧ w'.cell? ⟨gb159, 6, none⟩ = some (.slice (some ad169) l0_6.length c0_6) ∧ w'.cell? ⟨gb160, 0, none⟩ = some (.int .i64 a1_0) ∧ w'.cell? ⟨gb160, 1, none⟩ = some (.int .i64 a1_1) ∧ w'.cell? ⟨gb160, 2, none⟩ = some (.int .i64 a1_2) ∧ w'.cell? ⟨gb160, 3, none⟩ = some (.int .i64 a1_3) ∧ w'.cell? ⟨gb160, 4, none⟩ = some (.slice A1_4 l1_4.length c1_4) ∧ w'.cell? ⟨gb160, 5, none⟩ = some (.slice A1_5 l1_5.length c1_5) ∧ w'.cell? ⟨gb160, 6, none⟩ = some (.slice (some ad170) l1_6.length c1_6) ∧ w'.cell? ad169 = some (.slice A169_0 (rd_L1 l0_6 0).length c169_0) ∧ w'.cell? ad170 = some (.slice A170_0 (rd_L1 l1_6 0).length c170_0) ∧ w'.cell? ⟨ad169.block, ad169.off + 1, none⟩ = some (.slice A174_0 (rd_L1 l0_6 1).length c174_0) ∧ w'.cell? ⟨ad170.block, ad170.off + 1, none⟩ = some (.slice A175_0 (rd_L1 l1_6 1).length c175_0)) ∧ (Kd.R (Kd.int .i64) 3 w' w.heap.size (fun k_ => (w.heap.size ≤ k_)) s_.1 t166) ∧ (Kd.N (Kd.slice 3 (Kd.int .i64)) 23 w' w.heap.size (fun k_ => (w.heap.size ≤ k_) ∧ some k_ ≠ (s_.1 : Value).ownBlock ∧ k_ ≠ gb159 ∧ k_ ≠ gb160 ∧ k_ ≠ gb161 ∧ k_ ≠ s_.2.2.2.2) s_.2.2.2.1 y179) ∧ (w'.heap[gb159]? = some (.cells #[.int .i64 a0_0, .int .i64 a0_1, .int .i64 a0_2, .int .i64 a0_3, .slice A0_4 l0_4.length c0_4, .slice A0_5 l0_5.length c0_5, .slice (some ad169) l0_6.length c0_6] 26 (0, 0))) ∧ (w'.heap[gb160]? = some (.cells #[.int .i64 a1_0, .int .i64 a1_1, .int .i64 a1_2, .int .i64 a1_3, .slice A1_4 l1_4.length c1_4, .slice A1_5 l1_5.length c1_5, .slice (some ad170) l1_6.length c1_6] 26 (0, 0))) ∧ (w'.heap[gb161]? = some (.cells #[.int .i64 0, .int .i64 0, .int .i64 0, .int .i64 0, .slice none 0 0, .slice none 0 0, .slice none 0 0] 26 (0, 0))) ∧ (w'.heap[s_.2.2.2.2]? = some (.cells #[.int .i64 0, .int .i64 0, .int .i64 0, .int .i64 0, .slice none 0 0, .slice none 0 0, .slice none 0 0] 26 (0, 0))) ∧ (w.heap.size ≤ s_.2.2.2.2) ∧ (w.heap.size ≤ s_.2.2.2.2) ∧ (gb159 ≠ s_.2.2.2.2) ∧ (s_.2.2.2.2 ≠ gb159) ∧ (gb160 ≠ s_.2.2.2.2) ∧ (s_.2.2.2.2 ≠ gb160) ∧ (gb161 ≠ s_.2.2.2.2) ∧ (s_.2.2.2.2 ≠ gb161) ∧ (Below w.heap.size w w')) ?_ ?_
     rotate_left
     ·intro hJ4_9_14_19_24_33_42_43_45
      refine join_ (σ := Value × Value × Value × Value) 2 #[true, true, true, true, true, true, true, true, true, true, true, true, true, true, true, true, true, true, true, true, true, true, true, true, true, true, true, true, true, true, true, true, true, true, true, true, true, true, true, true, true, true, true, true, true, false, false] (fun s_ => [(11, .int .i64 t162), (16, .int .i64 t163), (21, .int .i64 t164), (26, .int .i64 t165), (31, s_.1), (40, s_.2.1), (49, s_.2.2.1), (50, s_.2.2.2), (51, .agg #[.int .i64 t162, .int .i64 t163, .int .i64 t164, .int .i64 t165, s_.1, .slice none 0 0, s_.2.2.2])]) (fun s_ w' => (w'.cell? ⟨gb159, 0, none⟩ = some (.int .i64 a0_0) ∧ w'.cell? ⟨gb159, 1, none⟩ = some (.int .i64 a0_1) ∧ w'.cell? ⟨gb159, 2, none⟩ = some (.int .i64 a0_2) ∧ w'.cell? ⟨gb159, 3, none⟩ = some (.int .i64 a0_3) ∧ w'.cell? ⟨gb159, 4, none⟩ = some (.slice A0_4 l0_4.length c0_4) ∧ w'.cell? ⟨gb159, 5, none⟩ = some (.slice A0_5 l0_5.length c0_5) ∧ w'.cell? ⟨gb159, 6, none⟩ = some (.slice (some ad169) l0_6.length c0_6) ∧ w'.cell? ⟨gb160, 0, none⟩ = some (.int .i64 a1_0) ∧ w'.cell? ⟨gb160, 1, none⟩ = some (.int .i64 a1_1) ∧ w'.cell? ⟨gb160, 2, none⟩ = some (.int .i64 a1_2) ∧ w'.cell? ⟨gb160, 3, none⟩ = some (.int .i64 a1_3) ∧ w'.cell? ⟨gb160, 4, none⟩ = some (.slice A1_4 l1_4.length c1_4) ∧ w'.cell? ⟨gb160, 5, none⟩ = some (.slice A1_5 l1_5.length c1_5) ∧ w'.cell? ⟨gb160, 6, none⟩ = some (.slice (some ad170) l1_6.length c1_6) ∧ w'.cell? ad169 = some (.slice A169_0 (rd_L1 l0_6 0).length c169_0) ∧ w'.cell? ad170 = some (.slice A170_0 (rd_L1 l1_6 0).length c170_0) ∧ w'.cell? ⟨ad169.block, ad169.off + 1, none⟩ = some (.slice A174_0 (rd_L1 l0_6 1).length c174_0) ∧ w'.cell? ⟨ad170.block, ad170.off + 1, none⟩ = some (.slice A175_0 (rd_L1 l1_6 1).length c175_0)) ∧ (Kd.R (Kd.int .i64) 3 w' w.heap.size (fun k_ => (w.heap.size ≤ k_)) s_.1 t166) ∧ (Kd.N (Kd.slice 3 (Kd.int .i64)) 23 w' w.heap.size (fun k_ => (w.heap.size ≤ k_) ∧ some k_ ≠ (s_.1 : Value).ownBlock ∧ k_ ≠ gb159 ∧ k_ ≠ gb160 ∧ k_ ≠ gb161) s_.2.2.2 y179) ∧ (w'.heap[gb159]? = some (.cells #[.int .i64 a0_0, .int .i64 a0_1, .int .i64 a0_2, .int .i64 a0_3, .slice A0_4 l0_4.length c0_4, .slice A0_5 l0_5.length c0_5, .slice (some ad169) l0_6.length c0_6] 26 (0, 0))) ∧ (w'.heap[gb160]? = some (.cells #[.int .i64 a1_0, .int .i64 a1_1, .int .i64 a1_2, .int .i64 a1_3, .slice A1_4 l1_4.length c1_4, .slice A1_5 l1_5.length c1_5, .slice (some ad170) l1_6.length c1_6] 26 (0, 0))) ∧ (w'.heap[gb161]? = some (.cells #[.int .i64 0, .int .i64 0, .int .i64 0, .int .i64 0, .slice none 0 0, .slice none 0 0, .slice none 0 0] 26 (0, 0))) ∧ (Below w.heap.size w w')) ?_ ?_
      rotate_left
      ·intro hJ4_9_14_19_24_33_42_43
       refine join_ (σ := Value × Value × Value × Nat) 3 #[true, true, true, true, true, true, true, true, true, true, true, true, true, true, true, true, true, true, true, true, true, true, true, true, true, true, true, true, true, true, true, true, true, true, true, true, true, true, true, true, true, true, true, false, false, true, false] (fun s_ => [(11, .int .i64 t162), (16, .int .i64 t163), (21, .int .i64 t164), (26, .int .i64 t165), (31, s_.1), (40, s_.2.1), (49, s_.2.2.1), (5, .pointer (some ⟨s_.2.2.2, 0, none⟩))]) (fun s_ w' => (w'.cell? ⟨gb159, 0, none⟩ = some (.int .i64 a0_0) ∧ w'.cell? ⟨gb159, 1, none⟩ = some (.int .i64 a0_1) ∧ w'.cell? ⟨gb159, 2, none⟩ = some (.int .i64 a0_2) ∧ w'.cell? ⟨gb159, 3, none⟩ = some (.int .i64 a0_3) ∧ w'.cell? ⟨gb159, 4, none⟩ = some (.slice A0_4 l0_4.length c0_4) ∧ w'.cell? ⟨gb159, 5, none⟩ = some (.slice A0_5 l0_5.length c0_5) ∧ w'.cell? ⟨gb159, 6, none⟩ = some (.slice (some ad169) l0_6.length c0_6) ∧ w'.cell? ⟨gb160, 0, none⟩ = some (.int .i64 a1_0) ∧ w'.cell? ⟨gb160, 1, none⟩ = some (.int .i64 a1_1) ∧ w'.cell? ⟨gb160, 2, none⟩ = some (.int .i64 a1_2) ∧ w'.cell? ⟨gb160, 3, none⟩ = some (.int .i64 a1_3) ∧ w'.cell? ⟨gb160, 4, none⟩ = some (.slice A1_4 l1_4.length c1_4) ∧ w'.cell? ⟨gb160, 5, none⟩ = some (.slice A1_5 l1_5.length c1_5) ∧ w'.cell? ⟨gb160, 6, none⟩ = some (.slice (some ad170) l1_6.length c1_6) ∧ w'.cell? ad169 = some (.slice A169_0 (rd_L1 l0_6 0).length c169_0) ∧ w'.cell? ad170 = some (.slice A170_0 (rd_L1 l1_6 0).length c170_0) ∧ w'.cell? ⟨ad169.block, ad169.off + 1, none⟩ = some (.slice A174_0 (rd_L1 l0_6 1).length c174_0) ∧ w'.cell? ⟨ad170.block, ad170.off + 1, none⟩ = some (.slice A175_0 (rd_L1 l1_6 1).length c175_0)) ∧ (Kd.R (Kd.int .i64) 3 w' w.heap.size (fun k_ => (w.heap.size ≤ k_) ∧ some k_ ≠ (s_.2.1 : Value).ownBlock ∧ some k_ ≠ (s_.2.2.1 : Value).ownBlock) s_.1 t166) ∧ (Kd.R (Kd.int .i64) 3 w' w.heap.size (fun k_ => (w.heap.size ≤ k_) ∧ some k_ ≠ (s_.1 : Value).ownBlock ∧ some k_ ≠ (s_.2.2.1 : Value).ownBlock) s_.2.1 t171) ∧ (Kd.R (Kd.int .i64) 3 w' w.heap.size (fun k_ => (w.heap.size ≤ k_) ∧ some k_ ≠ (s_.1 : Value).ownBlock ∧ some k_ ≠ (s_.2.1 : Value).ownBlock) s_.2.2.1 t176) ∧ (w'.heap[gb159]? = some (.cells #[.int .i64 a0_0, .int .i64 a0_1, .int .i64 a0_2, .int .i64 a0_3, .slice A0_4 l0_4.length c0_4, .slice A0_5 l0_5.length c0_5, .slice (some ad169) l0_6.length c0_6] 26 (0, 0))) ∧ (w'.heap[gb160]? = some (.cells #[.int .i64 a1_0, .int .i64 a1_1, .int .i64 a1_2, .int .i64 a1_3, .slice A1_4 l1_4.length c1_4, .slice A1_5 l1_5.length c1_5, .slice (some ad170) l1_6.length c1_6] 26 (0, 0))) ∧ (w'.heap[gb161]? = some (.cells #[.int .i64 0, .int .i64 0, .int .i64 0, .int .i64 0, .slice none 0 0, .slice none 0 0, .slice none 0 0] 26 (0, 0))) ∧ (w'.heap[s_.2.2.2]? = some (.cells #[.int .i64 0, .int .i64 0, .int .i64 0, .int .i64 0, .slice none 0 0, .slice none 0 0, .slice none 0 0] 26 (0, 0))) ∧ (w.heap.size ≤ s_.2.2.2) ∧ (w.heap.size ≤ s_.2.2.2) ∧ (gb159 ≠ s_.2.2.2) ∧ (s_.2.2.2 ≠ gb159) ∧ (gb160 ≠ s_.2.2.2) ∧ (s_.2.2.2 ≠ gb160) ∧ (gb161 ≠ s_.2.2.2) ∧ (s_.2.2.2 ≠ gb161) ∧ (Below w.heap.size w w')) ?_ ?_
       rotate_left
       ·intro hJ4_9_14_19_24_33_42_45
        refine join_ (σ := Value × Value × Value) 4 #[true, true, true, true, true, true, true, true, true, true, true, true, true, true, true, true, true, true, true, true, true, true, true, true, true, true, true, true, true, true, true, true, true, true, true, true, true, true, true, true, true, true, true, false, false, false, false] (fun s_ => [(11, .int .i64 t162), (16, .int .i64 t163), (21, .int .i64 t164), (26, .int .i64 t165), (31, s_.1), (40, s_.2.1), (49, s_.2.2)]) (fun s_ w' => (w'.cell? ⟨gb159, 0, none⟩ = some (.int .i64 a0_0) ∧ w'.cell? ⟨gb159, 1, none⟩ = some (.int .i64 a0_1) ∧ w'.cell? ⟨gb159, 2, none⟩ = some (.int .i64 a0_2) ∧ w'.cell? ⟨gb159, 3, none⟩ = some (.int .i64 a0_3) ∧ w'.cell? ⟨gb159, 4, none⟩ = some (.slice A0_4 l0_4.length c0_4) ∧ w'.cell? ⟨gb159, 5, none⟩ = some (.slice A0_5 l0_5.length c0_5) ∧ w'.cell? ⟨gb159, 6, none⟩ = some (.slice (some ad169) l0_6.length c0_6) ∧ w'.cell? ⟨gb160, 0, none⟩ = some (.int .i64 a1_0) ∧ w'.cell? ⟨gb160, 1, none⟩ = some (.int .i64 a1_1) ∧ w'.cell? ⟨gb160, 2, none⟩ = some (.int .i64 a1_2) ∧ w'.cell? ⟨gb160, 3, none⟩ = some (.int .i64 a1_3) ∧ w'.cell? ⟨gb160, 4, none⟩ = some (.slice A1_4 l1_4.length c1_4) ∧ w'.cell? ⟨gb160, 5, none⟩ = some (.slice A1_5 l1_5.length c1_5) ∧ w'.cell? ⟨gb160, 6, none⟩ = some (.slice (some ad170) l1_6.length c1_6) ∧ w'.cell? ad169 = some (.slice A169_0 (rd_L1 l0_6 0).length c169_0) ∧ w'.cell? ad170 = some (.slice A170_0 (rd_L1 l1_6 0).length c170_0) ∧ w'.cell? ⟨ad169.block, ad169.off + 1, none⟩ = some (.slice A174_0 (rd_L1 l0_6 1).length c174_0) ∧ w'.cell? ⟨ad170.block, ad170.off + 1, none⟩ = some (.slice A175_0 (rd_L1 l1_6 1).length c175_0)) ∧ (Kd.R (Kd.int .i64) 3 w' w.heap.size (fun k_ => (w.heap.size ≤ k_) ∧ some k_ ≠ (s_.2.1 : Value).ownBlock ∧ some k_ ≠ (s_.2.2 : Value).ownBlock) s_.1 t166) ∧ (Kd.R (Kd.int .i64) 3 w' w.heap.size (fun k_ => (w.heap.size ≤ k_) ∧ some k_ ≠ (s_.1 : Value).ownBlock ∧ some k_ ≠ (s_.2.2 : Value).ownBlock) s_.2.1 t171) ∧ (Kd.R (Kd.int .i64) 3 w' w.heap.size (fun k_ => (w.heap.size ≤ k_) ∧ some k_ ≠ (s_.1 : Value).ownBlock ∧ some k_ ≠ (s_.2.1 : Value).ownBlock) s_.2.2 t176) ∧ (w'.heap[gb159]? = some (.cells #[.int .i64 a0_0, .int .i64 a0_1, .int .i64 a0_2, .int .i64 a0_3, .slice A0_4 l0_4.length c0_4, .slice A0_5 l0_5.length c0_5, .slice (some ad169) l0_6.length c0_6] 26 (0, 0))) ∧ (w'.heap[gb160]? = some (.cells #[.int .i64 a1_0, .int .i64 a1_1, .int .i64 a1_2, .int .i64 a1_3, .slice A1_4 l1_4.length c1_4, .slice A1_5 l1_5.length c1_5, .slice (some ad170) l1_6.length c1_6] 26 (0, 0))) ∧ (w'.heap[gb161]? = some (.cells #[.int .i64 0, .int .i64 0, .int .i64 0, .int .i64 0, .slice none 0 0, .slice none 0 0, .slice none 0 0] 26 (0, 0))) ∧ (Below w.heap.size w w')) ?_ ?_
        rotate_left
        ·intro hJ4_9_14_19_24_33_42
         refine join_ (σ := Value × Value × Nat) 4 #[true, true, true, true, true, true, true, true, true, true, true, true, true, true, true, true, true, true, true, true, true, true, true, true, true, true, true, true, true, true, true, true, true, true, true, true, true, true, true, true, true, true, false, false, false, true, false] (fun s_ => [(11, .int .i64 t162), (16, .int .i64 t163), (21, .int .i64 t164), (26, .int .i64 t165), (31, s_.1), (40, s_.2.1), (5, .pointer (some ⟨s_.2.2, 0, none⟩))]) (fun s_ w' => (w'.cell? ⟨gb159, 0, none⟩ = some (.int .i64 a0_0) ∧ w'.cell? ⟨gb159, 1, none⟩ = some (.int .i64 a0_1) ∧ w'.cell? ⟨gb159, 2, none⟩ = some (.int .i64 a0_2) ∧ w'.cell? ⟨gb159, 3, none⟩ = some (.int .i64 a0_3) ∧ w'.cell? ⟨gb159, 4, none⟩ = some (.slice A0_4 l0_4.length c0_4) ∧ w'.cell? ⟨gb159, 5, none⟩ = some (.slice A0_5 l0_5.length c0_5) ∧ w'.cell? ⟨gb159, 6, none⟩ = some (.slice (some ad169) l0_6.length c0_6) ∧ w'.cell? ⟨gb160, 0, none⟩ = some (.int .i64 a1_0) ∧ w'.cell? ⟨gb160, 1, none⟩ = some (.int .i64 a1_1) ∧ w'.cell? ⟨gb160, 2, none⟩ = some (.int .i64 a1_2) ∧ w'.cell? ⟨gb160, 3, none⟩ = some (.int .i64 a1_3) ∧ w'.cell? ⟨gb160, 4, none⟩ = some (.slice A1_4 l1_4.length c1_4) ∧ w'.cell? ⟨gb160, 5, none⟩ = some (.slice A1_5 l1_5.length c1_5) ∧ w'.cell? ⟨gb160, 6, none⟩ = some (.slice (some ad170) l1_6.length c1_6) ∧ w'.cell? ad169 = some (.slice A169_0 (rd_L1 l0_6 0).length c169_0) ∧ w'.cell? ad170 = some (.slice A170_0 (rd_L1 l1_6 0).length c170_0) ∧ w'.cell? ⟨ad169.block, ad169.off + 1, none⟩ = some (.slice A174_0 (rd_L1 l0_6 1).length c174_0) ∧ w'.cell? ⟨ad170.block, ad170.off + 1, none⟩ = some (.slice A175_0 (rd_L1 l1_6 1).length c175_0)) ∧ (Kd.R (Kd.int .i64) 3 w' w.heap.size (fun k_ => (w.heap.size ≤ k_) ∧ some k_ ≠ (s_.2.1 : Value).ownBlock) s_.1 t166) ∧ (Kd.R (Kd.int .i64) 3 w' w.heap.size (fun k_ => (w.heap.size ≤ k_) ∧ some k_ ≠ (s_.1 : Value).ownBlock) s_.2.1 t171) ∧ (w'.heap[gb159]? = some (.cells #[.int .i64 a0_0, .int .i64 a0_1, .int .i64 a0_2, .int .i64 a0_3, .slice A0_4 l0_4.length c0_4, .slice A0_5 l0_5.length c0_5, .slice (some ad169) l0_6.length c0_6] 26 (0, 0))) ∧ (w'.heap[gb160]? = some (.cells #[.int .i64 a1_0, .int .i64 a1_1, .int .i64 a1_2, .int .i64 a1_3, .slice A1_4 l1_4.length c1_4, .slice A1_5 l1_5.length c1_5, .slice (some ad170) l1_6.length c1_6] 26 (0, 0))) ∧ (w'.heap[gb161]? = some (.cells #[.int .i64 0, .int .i64 0, .int .i64 0, .int .i64 0, .slice none 0 0, .slice none 0 0, .slice none 0 0] 26 (0, 0))) ∧ (w'.heap[s_.2.2]? = some (.cells #[.int .i64 0, .int .i64 0, .int .i64 0, .int .i64 0, .slice none 0 0, .slice none 0 0, .slice none 0 0] 26 (0, 0))) ∧ (w.heap.size ≤ s_.2.2) ∧ (w.heap.size ≤ s_.2.2) ∧ (gb159 ≠ s_.2.2) ∧ (s_.2.2 ≠ gb159) ∧ (gb160 ≠ s_.2.2) ∧ (s_.2.2 ≠ gb160) ∧ (gb161 ≠ s_.2.2) ∧ (s_.2.2 ≠ gb161) ∧ (Below w.heap.size w w')) ?_ ?_
         rotate_left
         ·intro hJ4_9_14_19_24_33_45
          refine join_ (σ := Value × Value) 5 #[true, true, true, true, true, true, true, true, true, true, true, true, true, true, true, true, true, true, true, true, true, true, true, true, true, true, true, true, true, true, true, true, true, true, true, true, true, true, true, true, true, true, false, false, false, false, false] (fun s_ => [(11, .int .i64 t162), (16, .int .i64 t163), (21, .int .i64 t164), (26, .int .i64 t165), (31, s_.1), (40, s_.2)]) (fun s_ w' => (w'.cell? ⟨gb159, 0, none⟩ = some (.int .i64 a0_0) ∧ w'.cell? ⟨gb159, 1, none⟩ = some (.int .i64 a0_1) ∧ w'.cell? ⟨gb159, 2, none⟩ = some (.int .i64 a0_2) ∧ w'.cell? ⟨gb159, 3, none⟩ = some (.int .i64 a0_3) ∧ w'.cell? ⟨gb159, 4, none⟩ = some (.slice A0_4 l0_4.length c0_4) ∧ w'.cell? ⟨gb159, 5, none⟩ = some (.slice A0_5 l0_5.length c0_5) ∧ w'.cell? ⟨gb159, 6, none⟩ = some (.slice (some ad169) l0_6.length c0_6) ∧ w'.cell? ⟨gb160, 0, none⟩ = some (.int .i64 a1_0) ∧ w'.cell? ⟨gb160, 1, none⟩ = some (.int .i64 a1_1) ∧ w'.cell? ⟨gb160, 2, none⟩ = some (.int .i64 a1_2) ∧ w'.cell? ⟨gb160, 3, none⟩ = some (.int .i64 a1_3) ∧ w'.cell? ⟨gb160, 4, none⟩ = some (.slice A1_4 l1_4.length c1_4) ∧ w'.cell? ⟨gb160, 5, none⟩ = some (.slice A1_5 l1_5.length c1_5) ∧ w'.cell? ⟨gb160, 6, none⟩ = some (.slice (some ad170) l1_6.length c1_6) ∧ w'.cell? ad169 = some (.slice A169_0 (rd_L1 l0_6 0).length c169_0) ∧ w'.cell? ad170 = some (.slice A170_0 (rd_L1 l1_6 0).length c170_0) ∧ w'.cell? ⟨ad169.block, ad169.off + 1, none⟩ = some (.slice A174_0 (rd_L1 l0_6 1).length c174_0) ∧ w'.cell? ⟨ad170.block, ad170.off + 1, none⟩ = some (.slice A175_0 (rd_L1 l1_6 1).length c175_0)) ∧ (Kd.R (Kd.int .i64) 3 w' w.heap.size (fun k_ => (w.heap.size ≤ k_) ∧ some k_ ≠ (s_.2 : Value).ownBlock) s_.1 t166) ∧ (Kd.R (Kd.int .i64) 3 w' w.heap.size (fun k_ => (w.heap.size ≤ k_) ∧ some k_ ≠ (s_.1 : Value).ownBlock) s_.2 t171) ∧ (w'.heap[gb159]? = some (.cells #[.int .i64 a0_0, .int .i64 a0_1, .int .i64 a0_2, .int .i64 a0_3, .slice A0_4 l0_4.length c0_4, .slice A0_5 l0_5.length c0_5, .slice (some ad169) l0_6.length c0_6] 26 (0, 0))) ∧ (w'.heap[gb160]? = some (.cells #[.int .i64 a1_0, .int .i64 a1_1, .int .i64 a1_2, .int .i64 a1_3, .slice A1_4 l1_4.length c1_4, .slice A1_5 l1_5.length c1_5, .slice (some ad170) l1_6.length c1_6] 26 (0, 0))) ∧ (w'.heap[gb161]? = some (.cells #[.int .i64 0, .int .i64 0, .int .i64 0, .int .i64 0, .slice none 0 0, .slice none 0 0, .slice none 0 0] 26 (0, 0))) ∧ (Below w.heap.size w w')) ?_ ?_
          rotate_left
          ·intro hJ4_9_14_19_24_33
           refine join_ (σ := Value × Nat) 5 #[true, true, true, true, true, true, true, true, true, true, true, true, true, true, true, true, true, true, true, true, true, true, true, true, true, true, true, true, true, true, true, true, true, false, true, true, true, true, true, true, true, true, false, false, false, true, false] (fun s_ => [(11, .int .i64 t162), (16, .int .i64 t163), (21, .int .i64 t164), (26, .int .i64 t165), (31, s_.1), (5, .pointer (some ⟨s_.2, 0, none⟩))]) (fun s_ w' => (w'.cell? ⟨gb159, 0, none⟩ = some (.int .i64 a0_0) ∧ w'.cell? ⟨gb159, 1, none⟩ = some (.int .i64 a0_1) ∧ w'.cell? ⟨gb159, 2, none⟩ = some (.int .i64 a0_2) ∧ w'.cell? ⟨gb159, 3, none⟩ = some (.int .i64 a0_3) ∧ w'.cell? ⟨gb159, 4, none⟩ = some (.slice A0_4 l0_4.length c0_4) ∧ w'.cell? ⟨gb159, 5, none⟩ = some (.slice A0_5 l0_5.length c0_5) ∧ w'.cell? ⟨gb159, 6, none⟩ = some (.slice (some ad169) l0_6.length c0_6) ∧ w'.cell? ⟨gb160, 0, none⟩ = some (.int .i64 a1_0) ∧ w'.cell? ⟨gb160, 1, none⟩ = some (.int .i64 a1_1) ∧ w'.cell? ⟨gb160, 2, none⟩ = some (.int .i64 a1_2) ∧ w'.cell? ⟨gb160, 3, none⟩ = some (.int .i64 a1_3) ∧ w'.cell? ⟨gb160, 4, none⟩ = some (.slice A1_4 l1_4.length c1_4) ∧ w'.cell? ⟨gb160, 5, none⟩ = some (.slice A1_5 l1_5.length c1_5) ∧ w'.cell? ⟨gb160, 6, none⟩ = some (.slice (some ad170) l1_6.length c1_6) ∧ w'.cell? ad169 = some (.slice A169_0 (rd_L1 l0_6 0).length c169_0) ∧ w'.cell? ad170 = some (.slice A170_0 (rd_L1 l1_6 0).length c170_0) ∧ w'.cell? ⟨ad169.block, ad169.off + 1, none⟩ = some (.slice A174_0 (rd_L1 l0_6 1).length c174_0) ∧ w'.cell? ⟨ad170.block, ad170.off + 1, none⟩ = some (.slice A175_0 (rd_L1 l1_6 1).length c175_0)) ∧ (Kd.R (Kd.int .i64) 3 w' w.heap.size (fun k_ => (w.heap.size ≤ k_)) s_.1 t166) ∧ (w'.heap[gb159]? = some (.cells #[.int .i64 a0_0, .int .i64 a0_1, .int .i64 a0_2, .int .i64 a0_3, .slice A0_4 l0_4.length c0_4, .slice A0_5 l0_5.length c0_5, .slice (some ad169) l0_6.length c0_6] 26 (0, 0))) ∧ (w'.heap[gb160]? = some (.cells #[.int .i64 a1_0, .int .i64 a1_1, .int .i64 a1_2, .int .i64 a1_3, .slice A1_4 l1_4.length c1_4, .slice A1_5 l1_5.length c1_5, .slice (some ad170) l1_6.length c1_6] 26 (0, 0))) ∧ (w'.heap[gb161]? = some (.cells #[.int .i64 0, .int .i64 0, .int .i64 0, .int .i64 0, .slice none 0 0, .slice none 0 0, .slice none 0 0] 26 (0, 0))) ∧ (w'.heap[s_.2]? = some (.cells #[.int .i64 0, .int .i64 0, .int .i64 0, .int .i64 0, .slice none 0 0, .slice none 0 0, .slice none 0 0] 26 (0, 0))) ∧ (w.heap.size ≤ s_.2) ∧ (w.heap.size ≤ s_.2) ∧ (gb159 ≠ s_.2) ∧ (s_.2 ≠ gb159) ∧ (gb160 ≠ s_.2) ∧ (s_.2 ≠ gb160) ∧ (gb161 ≠ s_.2) ∧ (s_.2 ≠ gb161) ∧ (Below w.heap.size w w')) ?_ ?_
           rotate_left
           ·intro hJ4_9_14_19_24_45
            refine join_ (σ := Value) 6 #[true, true, true, true, true, true, true, true, true, true, true, true, true, true, true, true, true, true, true, true, true, true, true, true, true, true, true, true, true, true, true, true, true, false, true, true, true, true, true, true, true, true, false, false, false, false, false] (fun s_ => [(11, .int .i64 t162), (16, .int .i64 t163), (21, .int .i64 t164), (26, .int .i64 t165), (31, s_)]) (fun s_ w' => (w'.cell? ⟨gb159, 0, none⟩ = some (.int .i64 a0_0) ∧ w'.cell? ⟨gb159, 1, none⟩ = some (.int .i64 a0_1) ∧ w'.cell? ⟨gb159, 2, none⟩ = some (.int .i64 a0_2) ∧ w'.cell? ⟨gb159, 3, none⟩ = some (.int .i64 a0_3) ∧ w'.cell? ⟨gb159, 4, none⟩ = some (.slice A0_4 l0_4.length c0_4) ∧ w'.cell? ⟨gb159, 5, none⟩ = some (.slice A0_5 l0_5.length c0_5) ∧ w'.cell? ⟨gb159, 6, none⟩ = some (.slice (some ad169) l0_6.length c0_6) ∧ w'.cell? ⟨gb160, 0, none⟩ = some (.int .i64 a1_0) ∧ w'.cell? ⟨gb160, 1, none⟩ = some (.int .i64 a1_1) ∧ w'.cell? ⟨gb160, 2, none⟩ = some (.int .i64 a1_2) ∧ w'.cell? ⟨gb160, 3, none⟩ = some (.int .i64 a1_3) ∧ w'.cell? ⟨gb160, 4, none⟩ = some (.slice A1_4 l1_4.length c1_4) ∧ w'.cell? ⟨gb160, 5, none⟩ = some (.slice A1_5 l1_5.length c1_5) ∧ w'.cell? ⟨gb160, 6, none⟩ = some (.slice (some ad170) l1_6.length c1_6) ∧ w'.cell? ad169 = some (.slice A169_0 (rd_L1 l0_6 0).length c169_0) ∧ w'.cell? ad170 = some (.slice A170_0 (rd_L1 l1_6 0).length c170_0) ∧ w'.cell? ⟨ad169.block, ad169.off + 1, none⟩ = some (.slice A174_0 (rd_L1 l0_6 1).length c174_0) ∧ w'.cell? ⟨ad170.block, ad170.off + 1, none⟩ = some (.slice A175_0 (rd_L1 l1_6 1).length c175_0)) ∧ (Kd.R (Kd.int .i64) 3 w' w.heap.size (fun k_ => (w.heap.size ≤ k_)) s_ t166) ∧ (w'.heap[gb159]? = some (.cells #[.int .i64 a0_0, .int .i64 a0_1, .int .i64 a0_2, .int .i64 a0_3, .slice A0_4 l0_4.length c0_4, .slice A0_5 l0_5.length c0_5, .slice (some ad169) l0_6.length c0_6] 26 (0, 0))) ∧ (w'.heap[gb160]? = some (.cells #[.int .i64 a1_0, .int .i64 a1_1, .int .i64 a1_2, .int .i64 a1_3, .slice A1_4 l1_4.length c1_4, .slice A1_5 l1_5.length c1_5, .slice (some ad170) l1_6.length c1_6] 26 (0, 0))) ∧ (w'.heap[gb161]? = some (.cells #[.int .i64 0, .int .i64 0, .int .i64 0, .int .i64 0, .slice none 0 0, .slice none 0 0, .slice none 0 0] 26 (0, 0))) ∧ (Below w.heap.size w w')) ?_ ?_
            rotate_left
            ·intro hJ4_9_14_19_24
             refine join_ (σ := Nat) 6 #[true, true, true, true, true, true, true, true, true, true, true, true, true, true, true, true, true, true, true, true, true, true, true, true, false, true, true, true, true, true, true, true, true, false, true, true, true, true, true, true, true, true, false, false, false, true, false] (fun s_ => [(11, .int .i64 t162), (16, .int .i64 t163), (21, .int .i64 t164), (26, .int .i64 t165), (5, .pointer (some ⟨s_, 0, none⟩))]) (fun s_ w' => (w'.cell? ⟨gb159, 0, none⟩ = some (.int .i64 a0_0) ∧ w'.cell? ⟨gb159, 1, none⟩ = some (.int .i64 a0_1) ∧ w'.cell? ⟨gb159, 2, none⟩ = some (.int .i64 a0_2) ∧ w'.cell? ⟨gb159, 3, none⟩ = some (.int .i64 a0_3) ∧ w'.cell? ⟨gb159, 4, none⟩ = some (.slice A0_4 l0_4.length c0_4) ∧ w'.cell? ⟨gb159, 5, none⟩ = some (.slice A0_5 l0_5.length c0_5) ∧ w'.cell? ⟨gb159, 6, none⟩ = some (.slice (some ad169) l0_6.length c0_6) ∧ w'.cell? ⟨gb160, 0, none⟩ = some (.int .i64 a1_0) ∧ w'.cell? ⟨gb160, 1, none⟩ = some (.int .i64 a1_1) ∧ w'.cell? ⟨gb160, 2, none⟩ = some (.int .i64 a1_2) ∧ w'.cell? ⟨gb160, 3, none⟩ = some (.int .i64 a1_3) ∧ w'.cell? ⟨gb160, 4, none⟩ = some (.slice A1_4 l1_4.length c1_4) ∧ w'.cell? ⟨gb160, 5, none⟩ = some (.slice A1_5 l1_5.length c1_5) ∧ w'.cell? ⟨gb160, 6, none⟩ = some (.slice (some ad170) l1_6.length c1_6) ∧ w'.cell? ad169 = some (.slice A169_0 (rd_L1 l0_6 0).length c169_0) ∧ w'.cell? ad170 = some (.slice A170_0 (rd_L1 l1_6 0).length c170_0) ∧ w'.cell? ⟨ad169.block, ad169.off + 1, none⟩ = some (.slice A174_0 (rd_L1 l0_6 1).length c174_0) ∧ w'.cell? ⟨ad170.block, ad170.off + 1, none⟩ = some (.slice A175_0 (rd_L1 l1_6 1).length c175_0)) ∧ (w'.heap[gb159]? = some (.cells #[.int .i64 a0_0, .int .i64 a0_1, .int .i64 a0_2, .int .i64 a0_3, .slice A0_4 l0_4.length c0_4, .slice A0_5 l0_5.length c0_5, .slice (some ad169) l0_6.length c0_6] 26 (0, 0))) ∧ (w'.heap[gb160]? = some (.cells #[.int .i64 a1_0, .int .i64 a1_1, .int .i64 a1_2, .int .i64 a1_3, .slice A1_4 l1_4.length c1_4, .slice A1_5 l1_5.length c1_5, .slice (some ad170) l1_6.length c1_6] 26 (0, 0))) ∧ (w'.heap[gb161]? = some (.cells #[.int .i64 0, .int .i64 0, .int .i64 0, .int .i64 0, .slice none 0 0, .slice none 0 0, .slice none 0 0] 26 (0, 0))) ∧ (w'.heap[s_]? = some (.cells #[.int .i64 0, .int .i64 0, .int .i64 0, .int .i64 0, .slice none 0 0, .slice none 0 0, .slice none 0 0] 26 (0, 0))) ∧ (w.heap.size ≤ s_) ∧ (w.heap.size ≤ s_) ∧ (gb159 ≠ s_) ∧ (s_ ≠ gb159) ∧ (gb160 ≠ s_) ∧ (s_ ≠ gb160) ∧ (gb161 ≠ s_) ∧ (s_ ≠ gb161) ∧ (Below w.heap.size w w')) ?_ ?_
             rotate_left
             ·intro hJ4_9_14_19_45
              refine join_ (σ := Unit) 7 #[true, true, true, true, true, true, true, true, true, true, true, true, true, true, true, true, true, true, true, true, true, true, true, true, false, true, true, true, true, true, true, true, true, false, true, true, true, true, true, true, true, true, false, false, false, false, false] (fun s_ => [(11, .int .i64 t162), (16, .int .i64 t163), (21, .int .i64 t164), (26, .int .i64 t165)]) (fun s_ w' => (w'.cell? ⟨gb159, 0, none⟩ = some (.int .i64 a0_0) ∧ w'.cell? ⟨gb159, 1, none⟩ = some (.int .i64 a0_1) ∧ w'.cell? ⟨gb159, 2, none⟩ = some (.int .i64 a0_2) ∧ w'.cell? ⟨gb159, 3, none⟩ = some (.int .i64 a0_3) ∧ w'.cell? ⟨gb159, 4, none⟩ = some (.slice A0_4 l0_4.length c0_4) ∧ w'.cell? ⟨gb159, 5, none⟩ = some (.slice A0_5 l0_5.length c0_5) ∧ w'.cell? ⟨gb159, 6, none⟩ = some (.slice (some ad169) l0_6.length c0_6) ∧ w'.cell? ⟨gb160, 0, none⟩ = some (.int .i64 a1_0) ∧ w'.cell? ⟨gb160, 1, none⟩ = some (.int .i64 a1_1) ∧ w'.cell? ⟨gb160, 2, none⟩ = some (.int .i64 a1_2) ∧ w'.cell? ⟨gb160, 3, none⟩ = some (.int .i64 a1_3) ∧ w'.cell? ⟨gb160, 4, none⟩ = some (.slice A1_4 l1_4.length c1_4) ∧ w'.cell? ⟨gb160, 5, none⟩ = some (.slice A1_5 l1_5.length c1_5) ∧ w'.cell? ⟨gb160, 6, none⟩ = some (.slice (some ad170) l1_6.length c1_6) ∧ w'.cell? ad169 = some (.slice A169_0 (rd_L1 l0_6 0).length c169_0) ∧ w'.cell? ad170 = some (.slice A170_0 (rd_L1 l1_6 0).length c170_0) ∧ w'.cell? ⟨ad169.block, ad169.off + 1, none⟩ = some (.slice A174_0 (rd_L1 l0_6 1).length c174_0) ∧ w'.cell? ⟨ad170.block, ad170.off + 1, none⟩ = some (.slice A175_0 (rd_L1 l1_6 1).length c175_0)) ∧ (w'.heap[gb159]? = some (.cells #[.int .i64 a0_0, .int .i64 a0_1, .int .i64 a0_2, .int .i64 a0_3, .slice A0_4 l0_4.length c0_4, .slice A0_5 l0_5.length c0_5, .slice (some ad169) l0_6.length c0_6] 26 (0, 0))) ∧ (w'.heap[gb160]? = some (.cells #[.int .i64 a1_0, .int .i64 a1_1, .int .i64 a1_2, .int .i64 a1_3, .slice A1_4 l1_4.length c1_4, .slice A1_5 l1_5.length c1_5, .slice (some ad170) l1_6.length c1_6] 26 (0, 0))) ∧ (w'.heap[gb161]? = some (.cells #[.int .i64 0, .int .i64 0, .int .i64 0, .int .i64 0, .slice none 0 0, .slice none 0 0, .slice none 0 0] 26 (0, 0))) ∧ (Below w.heap.size w w')) ?_ ?_
              rotate_left
              ·intro hJ4_9_14_19
               refine join_ (σ := Nat) 7 #[true, true, true, true, true, true, true, true, true, true, true, true, true, true, true, true, true, true, true, false, true, true, true, true, false, true, true, true, true, true, true, true, true, false, true, true, true, true, true, true, true, true, false, false, false, true, false] (fun s_ => [(11, .int .i64 t162), (16, .int .i64 t163), (21, .int .i64 t164), (5, .pointer (some ⟨s_, 0, none⟩))]) (fun s_ w' => (w'.cell? ⟨gb159, 0, none⟩ = some (.int .i64 a0_0) ∧ w'.cell? ⟨gb159, 1, none⟩ = some (.int .i64 a0_1) ∧ w'.cell? ⟨gb159, 2, none⟩ = some (.int .i64 a0_2) ∧ w'.cell? ⟨gb159, 3, none⟩ = some (.int .i64 a0_3) ∧ w'.cell? ⟨gb159, 4, none⟩ = some (.slice A0_4 l0_4.length c0_4) ∧ w'.cell? ⟨gb159, 5, none⟩ = some (.slice A0_5 l0_5.length c0_5) ∧ w'.cell? ⟨gb159, 6, none⟩ = some (.slice (some ad169) l0_6.length c0_6) ∧ w'.cell? ⟨gb160, 0, none⟩ = some (.int .i64 a1_0) ∧ w'.cell? ⟨gb160, 1, none⟩ = some (.int .i64 a1_1) ∧ w'.cell? ⟨gb160, 2, none⟩ = some (.int .i64 a1_2) ∧ w'.cell? ⟨gb160, 3, none⟩ = some (.int .i64 a1_3) ∧ w'.cell? ⟨gb160, 4, none⟩ = some (.slice A1_4 l1_4.length c1_4) ∧ w'.cell? ⟨gb160, 5, none⟩ = some (.slice A1_5 l1_5.length c1_5) ∧ w'.cell? ⟨gb160, 6, none⟩ = some (.slice (some ad170) l1_6.length c1_6) ∧ w'.cell? ad169 = some (.slice A169_0 (rd_L1 l0_6 0).length c169_0) ∧ w'.cell? ad170 = some (.slice A170_0 (rd_L1 l1_6 0).length c170_0) ∧ w'.cell? ⟨ad169.block, ad169.off + 1, none⟩ = some (.slice A174_0 (rd_L1 l0_6 1).length c174_0) ∧ w'.cell? ⟨ad170.block, ad170.off + 1, none⟩ = some (.slice A175_0 (rd_L1 l1_6 1).length c175_0)) ∧ (w'.heap[gb159]? = some (.cells #[.int .i64 a0_0, .int .i64 a0_1, .int .i64 a0_2, .int .i64 a0_3, .slice A0_4 l0_4.length c0_4, .slice A0_5 l0_5.length c0_5, .slice (some ad169) l0_6.length c0_6] 26 (0, 0))) ∧ (w'.heap[gb160]? = some (.cells #[.int .i64 a1_0, .int .i64 a1_1, .int .i64 a1_2, .int .i64 a1_3, .slice A1_4 l1_4.length c1_4, .slice A1_5 l1_5.length c1_5, .slice (some ad170) l1_6.length c1_6] 26 (0, 0))) ∧ (w'.heap[gb161]? = some (.cells #[.int .i64 0, .int .i64 0, .int .i64 0, .int .i64 0, .slice none 0 0, .slice none 0 0, .slice none 0 0] 26 (0, 0))) ∧ (w'.heap[s_]? = some (.cells #[.int .i64 0, .int .i64 0, .int .i64 0, .int .i64 0, .slice none 0 0, .slice none 0 0, .slice none 0 0] 26 (0, 0))) ∧ (w.heap.size ≤ s_) ∧ (w.heap.size ≤ s_) ∧ (gb159 ≠ s_) ∧ (s_ ≠ gb159) ∧ (gb160 ≠ s_) ∧ (s_ ≠ gb160) ∧ (gb161 ≠ s_) ∧ (s_ ≠ gb161) ∧ (Below w.heap.size w w')) ?_ ?_
               rotate_left
               ·intro hJ4_9_14_45
                refine join_ (σ := Unit) 8 #[true, true, true, true, true, true, true, true, true, true, true, true, true, true, true, true, true, true, true, false, true, true, true, true, false, true, true, true, true, true, true, true, true, false, true, true, true, true, true, true, true, true, false, false, false, false, false] (fun s_ => [(11, .int .i64 t162), (16, .int .i64 t163), (21, .int .i64 t164)]) (fun s_ w' => (w'.cell? ⟨gb159, 0, none⟩ = some (.int .i64 a0_0) ∧ w'.cell? ⟨gb159, 1, none⟩ = some (.int .i64 a0_1) ∧ w'.cell? ⟨gb159, 2, none⟩ = some (.int .i64 a0_2) ∧ w'.cell? ⟨gb159, 3, none⟩ = some (.int .i64 a0_3) ∧ w'.cell? ⟨gb159, 4, none⟩ = some (.slice A0_4 l0_4.length c0_4) ∧ w'.cell? ⟨gb159, 5, none⟩ = some (.slice A0_5 l0_5.length c0_5) ∧ w'.cell? ⟨gb159, 6, none⟩ = some (.slice (some ad169) l0_6.length c0_6) ∧ w'.cell? ⟨gb160, 0, none⟩ = some (.int .i64 a1_0) ∧ w'.cell? ⟨gb160, 1, none⟩ = some (.int .i64 a1_1) ∧ w'.cell? ⟨gb160, 2, none⟩ = some (.int .i64 a1_2) ∧ w'.cell? ⟨gb160, 3, none⟩ = some (.int .i64 a1_3) ∧ w'.cell? ⟨gb160, 4, none⟩ = some (.slice A1_4 l1_4.length c1_4) ∧ w'.cell? ⟨gb160, 5, none⟩ = some (.slice A1_5 l1_5.length c1_5) ∧ w'.cell? ⟨gb160, 6, none⟩ = some (.slice (some ad170) l1_6.length c1_6) ∧ w'.cell? ad169 = some (.slice A169_0 (rd_L1 l0_6 0).length c169_0) ∧ w'.cell? ad170 = some (.slice A170_0 (rd_L1 l1_6 0).length c170_0) ∧ w'.cell? ⟨ad169.block, ad169.off + 1, none⟩ = some (.slice A174_0 (rd_L1 l0_6 1).length c174_0) ∧ w'.cell? ⟨ad170.block, ad170.off + 1, none⟩ = some (.slice A175_0 (rd_L1 l1_6 1).length c175_0)) ∧ (w'.heap[gb159]? = some (.cells #[.int .i64 a0_0, .int .i64 a0_1, .int .i64 a0_2, .int .i64 a0_3, .slice A0_4 l0_4.length c0_4, .slice A0_5 l0_5.length c0_5, .slice (some ad169) l0_6.length c0_6] 26 (0, 0))) ∧ (w'.heap[gb160]? = some (.cells #[.int .i64 a1_0, .int .i64 a1_1, .int .i64 a1_2, .int .i64 a1_3, .slice A1_4 l1_4.length c1_4, .slice A1_5 l1_5.length c1_5, .slice (some ad170) l1_6.length c1_6] 26 (0, 0))) ∧ (w'.heap[gb161]? = some (.cells #[.int .i64 0, .int .i64 0, .int .i64 0, .int .i64 0, .slice none 0 0, .slice none 0 0, .slice none 0 0] 26 (0, 0))) ∧ (Below w.heap.size w w')) ?_ ?_
                rotate_left
                ·intro hJ4_9_14
                 refine join_ (σ := Nat) 8 #[true, true, true, true, true, true, true, true, true, true, true, true, true, true, false, true, true, true, true, false, true, true, true, true, false, true, true, true, true, true, true, true, true, false, true, true, true, true, true, true, true, true, false, false, false, true, false] (fun s_ => [(11, .int .i64 t162), (16, .int .i64 t163), (5, .pointer (some ⟨s_, 0, none⟩))]) (fun s_ w' => (w'.cell? ⟨gb159, 0, none⟩ = some (.int .i64 a0_0) ∧ w'.cell? ⟨gb159, 1, none⟩ = some (.int .i64 a0_1) ∧ w'.cell? ⟨gb159, 2, none⟩ = some (.int .i64 a0_2) ∧ w'.cell? ⟨gb159, 3, none⟩ = some (.int .i64 a0_3) ∧ w'.cell? ⟨gb159, 4, none⟩ = some (.slice A0_4 l0_4.length c0_4) ∧ w'.cell? ⟨gb159, 5, none⟩ = some (.slice A0_5 l0_5.length c0_5) ∧ w'.cell? ⟨gb159, 6, none⟩ = some (.slice (some ad169) l0_6.length c0_6) ∧ w'.cell? ⟨gb160, 0, none⟩ = some (.int .i64 a1_0) ∧ w'.cell? ⟨gb160, 1, none⟩ = some (.int .i64 a1_1) ∧ w'.cell? ⟨gb160, 2, none⟩ = some (.int .i64 a1_2) ∧ w'.cell? ⟨gb160, 3, none⟩ = some (.int .i64 a1_3) ∧ w'.cell? ⟨gb160, 4, none⟩ = some (.slice A1_4 l1_4.length c1_4) ∧ w'.cell? ⟨gb160, 5, none⟩ = some (.slice A1_5 l1_5.length c1_5) ∧ w'.cell? ⟨gb160, 6, none⟩ = some (.slice (some ad170) l1_6.length c1_6) ∧ w'.cell? ad169 = some (.slice A169_0 (rd_L1 l0_6 0).length c169_0) ∧ w'.cell? ad170 = some (.slice A170_0 (rd_L1 l1_6 0).length c170_0) ∧ w'.cell? ⟨ad169.block, ad169.off + 1, none⟩ = some (.slice A174_0 (rd_L1 l0_6 1).length c174_0) ∧ w'.cell? ⟨ad170.block, ad170.off + 1, none⟩ = some (.slice A175_0 (rd_L1 l1_6 1).length c175_0)) ∧ (w'.heap[gb159]? = some (.cells #[.int .i64 a0_0, .int .i64 a0_1, .int .i64 a0_2, .int .i64 a0_3, .slice A0_4 l0_4.length c0_4, .slice A0_5 l0_5.length c0_5, .slice (some ad169) l0_6.length c0_6] 26 (0, 0))) ∧ (w'.heap[gb160]? = some (.cells #[.int .i64 a1_0, .int .i64 a1_1, .int .i64 a1_2, .int .i64 a1_3, .slice A1_4 l1_4.length c1_4, .slice A1_5 l1_5.length c1_5, .slice (some ad170) l1_6.length c1_6] 26 (0, 0))) ∧ (w'.heap[gb161]? = some (.cells #[.int .i64 0, .int .i64 0, .int .i64 0, .int .i64 0, .slice none 0 0, .slice none 0 0, .slice none 0 0] 26 (0, 0))) ∧ (w'.heap[s_]? = some (.cells #[.int .i64 0, .int .i64 0, .int .i64 0, .int .i64 0, .slice none 0 0, .slice none 0 0, .slice none 0 0] 26 (0, 0))) ∧ (w.heap.size ≤ s_) ∧ (w.heap.size ≤ s_) ∧ (gb159 ≠ s_) ∧ (s_ ≠ gb159) ∧ (gb160 ≠ s_) ∧ (s_ ≠ gb160) ∧ (gb161 ≠ s_) ∧ (s_ ≠ gb161) ∧ (Below w.heap.size w w')) ?_ ?_
                 rotate_left
                 ·intro hJ4_9_45
                  refine join_ (σ := Unit) 9 #[true, true, true, true, true, true, true, true, true, true, true, true, true, true, false, true, true, true, true, false, true, true, true, true, false, true, true, true, true, true, true, true, true, false, true, true, true, true, true, true, true, true, false, false, false, false, false] (fun s_ => [(11, .int .i64 t162), (16, .int .i64 t163)]) (fun s_ w' => (w'.cell? ⟨gb159, 0, none⟩ = some (.int .i64 a0_0) ∧ w'.cell? ⟨gb159, 1, none⟩ = some (.int .i64 a0_1) ∧ w'.cell? ⟨gb159, 2, none⟩ = some (.int .i64 a0_2) ∧ w'.cell? ⟨gb159, 3, none⟩ = some (.int .i64 a0_3) ∧ w'.cell? ⟨gb159, 4, none⟩ = some (.slice A0_4 l0_4.length c0_4) ∧ w'.cell? ⟨gb159, 5, none⟩ = some (.slice A0_5 l0_5.length c0_5) ∧ w'.cell? ⟨gb159, 6, none⟩ = some (.slice (some ad169) l0_6.length c0_6) ∧ w'.cell? ⟨gb160, 0, none⟩ = some (.int .i64 a1_0) ∧ w'.cell? ⟨gb160, 1, none⟩ = some (.int .i64 a1_1) ∧ w'.cell? ⟨gb160, 2, none⟩ = some (.int .i64 a1_2) ∧ w'.cell? ⟨gb160, 3, none⟩ = some (.int .i64 a1_3) ∧ w'.cell? ⟨gb160, 4, none⟩ = some (.slice A1_4 l1_4.length c1_4) ∧ w'.cell? ⟨gb160, 5, none⟩ = some (.slice A1_5 l1_5.length c1_5) ∧ w'.cell? ⟨gb160, 6, none⟩ = some (.slice (some ad170) l1_6.length c1_6) ∧ w'.cell? ad169 = some (.slice A169_0 (rd_L1 l0_6 0).length c169_0) ∧ w'.cell? ad170 = some (.slice A170_0 (rd_L1 l1_6 0).length c170_0) ∧ w'.cell? ⟨ad169.block, ad169.off + 1, none⟩ = some (.slice A174_0 (rd_L1 l0_6 1).length c174_0) ∧ w'.cell? ⟨ad170.block, ad170.off + 1, none⟩ = some (.slice A175_0 (rd_L1 l1_6 1).length c175_0)) ∧ (w'.heap[gb159]? = some (.cells #[.int .i64 a0_0, .int .i64 a0_1, .int .i64 a0_2, .int .i64 a0_3, .slice A0_4 l0_4.length c0_4, .slice A0_5 l0_5.length c0_5, .slice (some ad169) l0_6.length c0_6] 26 (0, 0))) ∧ (w'.heap[gb160]? = some (.cells #[.int .i64 a1_0, .int .i64 a1_1, .int .i64 a1_2, .int .i64 a1_3, .slice A1_4 l1_4.length c1_4, .slice A1_5 l1_5.length c1_5, .slice (some ad170) l1_6.length c1_6] 26 (0, 0))) ∧ (w'.heap[gb161]? = some (.cells #[.int .i64 0, .int .i64 0, .int .i64 0, .int .i64 0, .slice none 0 0, .slice none 0 0, .slice none 0 0] 26 (0, 0))) ∧ (Below w.heap.size w w')) ?_ ?_
                  rotate_left
                  ·intro hJ4_9
                   refine join_ (σ := Nat) 9 #[true, true, true, true, true, true, true, true, true, false, true, true, true, true, false, true, true, true, true, false, true, true, true, true, false, true, true, true, true, true, true, true, true, false, true, true, true, true, true, true, true, true, false, false, false, true, false] (fun s_ => [(11, .int .i64 t162), (5, .pointer (some ⟨s_, 0, none⟩))]) (fun s_ w' => (w'.cell? ⟨gb159, 0, none⟩ = some (.int .i64 a0_0) ∧ w'.cell? ⟨gb159, 1, none⟩ = some (.int .i64 a0_1) ∧ w'.cell? ⟨gb159, 2, none⟩ = some (.int .i64 a0_2) ∧ w'.cell? ⟨gb159, 3, none⟩ = some (.int .i64 a0_3) ∧ w'.cell? ⟨gb159, 4, none⟩ = some (.slice A0_4 l0_4.length c0_4) ∧ w'.cell? ⟨gb159, 5, none⟩ = some (.slice A0_5 l0_5.length c0_5) ∧ w'.cell? ⟨gb159, 6, none⟩ = some (.slice (some ad169) l0_6.length c0_6) ∧ w'.cell? ⟨gb160, 0, none⟩ = some (.int .i64 a1_0) ∧ w'.cell? ⟨gb160, 1, none⟩ = some (.int .i64 a1_1) ∧ w'.cell? ⟨gb160, 2, none⟩ = some (.int .i64 a1_2) ∧ w'.cell? ⟨gb160, 3, none⟩ = some (.int .i64 a1_3) ∧ w'.cell? ⟨gb160, 4, none⟩ = some (.slice A1_4 l1_4.length c1_4) ∧ w'.cell? ⟨gb160, 5, none⟩ = some (.slice A1_5 l1_5.length c1_5) ∧ w'.cell? ⟨gb160, 6, none⟩ = some (.slice (some ad170) l1_6.length c1_6) ∧ w'.cell? ad169 = some (.slice A169_0 (rd_L1 l0_6 0).length c169_0) ∧ w'.cell? ad170 = some (.slice A170_0 (rd_L1 l1_6 0).length c170_0) ∧ w'.cell? ⟨ad169.block, ad169.off + 1, none⟩ = some (.slice A174_0 (rd_L1 l0_6 1).length c174_0) ∧ w'.cell? ⟨ad170.block, ad170.off + 1, none⟩ = some (.slice A175_0 (rd_L1 l1_6 1).length c175_0)) ∧ (w'.heap[gb159]? = some (.cells #[.int .i64 a0_0, .int .i64 a0_1, .int .i64 a0_2, .int .i64 a0_3, .slice A0_4 l0_4.length c0_4, .slice A0_5 l0_5.length c0_5, .slice (some ad169) l0_6.length c0_6] 26 (0, 0))) ∧ (w'.heap[gb160]? = some (.cells #[.int .i64 a1_0, .int .i64 a1_1, .int .i64 a1_2, .int .i64 a1_3, .slice A1_4 l1_4.length c1_4, .slice A1_5 l1_5.length c1_5, .slice (some ad170) l1_6.length c1_6] 26 (0, 0))) ∧ (w'.heap[gb161]? = some (.cells #[.int .i64 0, .int .i64 0, .int .i64 0, .int .i64 0, .slice none 0 0, .slice none 0 0, .slice none 0 0] 26 (0, 0))) ∧ (w'.heap[s_]? = some (.cells #[.int .i64 0, .int .i64 0, .int .i64 0, .int .i64 0, .slice none 0 0, .slice none 0 0, .slice none 0 0] 26 (0, 0))) ∧ (w.heap.size ≤ s_) ∧ (w.heap.size ≤ s_) ∧ (gb159 ≠ s_) ∧ (s_ ≠ gb159) ∧ (gb160 ≠ s_) ∧ (s_ ≠ gb160) ∧ (gb161 ≠ s_) ∧ (s_ ≠ gb161) ∧ (Below w.heap.size w w')) ?_ ?_
                   rotate_left
                   ·intro hJ4_45
                    refine join_ (σ := Unit) 10 #[true, true, true, true, true, true, true, true, true, false, true, true, true, true, false, true, true, true, true, false, true, true, true, true, false, true, true, true, true, true, true, true, true, false, true, true, true, true, true, true, true, true, false, false, false, false, false] (fun s_ => [(11, .int .i64 t162)]) (fun s_ w' => (w'.cell? ⟨gb159, 0, none⟩ = some (.int .i64 a0_0) ∧ w'.cell? ⟨gb159, 1, none⟩ = some (.int .i64 a0_1) ∧ w'.cell? ⟨gb159, 2, none⟩ = some (.int .i64 a0_2) ∧ w'.cell? ⟨gb159, 3, none⟩ = some (.int .i64 a0_3) ∧ w'.cell? ⟨gb159, 4, none⟩ = some (.slice A0_4 l0_4.length c0_4) ∧ w'.cell? ⟨gb159, 5, none⟩ = some (.slice A0_5 l0_5.length c0_5) ∧ w'.cell? ⟨gb159, 6, none⟩ = some (.slice (some ad169) l0_6.length c0_6) ∧ w'.cell? ⟨gb160, 0, none⟩ = some (.int .i64 a1_0) ∧ w'.cell? ⟨gb160, 1, none⟩ = some (.int .i64 a1_1) ∧ w'.cell? ⟨gb160, 2, none⟩ = some (.int .i64 a1_2) ∧ w'.cell? ⟨gb160, 3, none⟩ = some (.int .i64 a1_3) ∧ w'.cell? ⟨gb160, 4, none⟩ = some (.slice A1_4 l1_4.length c1_4) ∧ w'.cell? ⟨gb160, 5, none⟩ = some (.slice A1_5 l1_5.length c1_5) ∧ w'.cell? ⟨gb160, 6, none⟩ = some (.slice (some ad170) l1_6.length c1_6) ∧ w'.cell? ad169 = some (.slice A169_0 (rd_L1 l0_6 0).length c169_0) ∧ w'.cell? ad170 = some (.slice A170_0 (rd_L1 l1_6 0).length c170_0) ∧ w'.cell? ⟨ad169.block, ad169.off + 1, none⟩ = some (.slice A174_0 (rd_L1 l0_6 1).length c174_0) ∧ w'.cell? ⟨ad170.block, ad170.off + 1, none⟩ = some (.slice A175_0 (rd_L1 l1_6 1).length c175_0)) ∧ (w'.heap[gb159]? = some (.cells #[.int .i64 a0_0, .int .i64 a0_1, .int .i64 a0_2, .int .i64 a0_3, .slice A0_4 l0_4.length c0_4, .slice A0_5 l0_5.length c0_5, .slice (some ad169) l0_6.length c0_6] 26 (0, 0))) ∧ (w'.heap[gb160]? = some (.cells #[.int .i64 a1_0, .int .i64 a1_1, .int .i64 a1_2, .int .i64 a1_3, .slice A1_4 l1_4.length c1_4, .slice A1_5 l1_5.length c1_5, .slice (some ad170) l1_6.length c1_6] 26 (0, 0))) ∧ (w'.heap[gb161]? = some (.cells #[.int .i64 0, .int .i64 0, .int .i64 0, .int .i64 0, .slice none 0 0, .slice none 0 0, .slice none 0 0] 26 (0, 0))) ∧ (Below w.heap.size w w')) ?_ ?_
                    rotate_left
                    ·intro hJ4
                     refine join_ (σ := Nat) 10 #[true, true, true, true, false, true, true, true, true, false, true, true, true, true, false, true, true, true, true, false, true, true, true, true, false, true, true, true, true, true, true, true, true, false, true, true, true, true, true, true, true, true, false, false, false, true, false] (fun s_ => [(5, .pointer (some ⟨s_, 0, none⟩))]) (fun s_ w' => (w'.cell? ⟨gb159, 0, none⟩ = some (.int .i64 a0_0) ∧ w'.cell? ⟨gb159, 1, none⟩ = some (.int .i64 a0_1) ∧ w'.cell? ⟨gb159, 2, none⟩ = some (.int .i64 a0_2) ∧ w'.cell? ⟨gb159, 3, none⟩ = some (.int .i64 a0_3) ∧ w'.cell? ⟨gb159, 4, none⟩ = some (.slice A0_4 l0_4.length c0_4) ∧ w'.cell? ⟨gb159, 5, none⟩ = some (.slice A0_5 l0_5.length c0_5) ∧ w'.cell? ⟨gb159, 6, none⟩ = some (.slice (some ad169) l0_6.length c0_6) ∧ w'.cell? ⟨gb160, 0, none⟩ = some (.int .i64 a1_0) ∧ w'.cell? ⟨gb160, 1, none⟩ = some (.int .i64 a1_1) ∧ w'.cell? ⟨gb160, 2, none⟩ = some (.int .i64 a1_2) ∧ w'.cell? ⟨gb160, 3, none⟩ = some (.int .i64 a1_3) ∧ w'.cell? ⟨gb160, 4, none⟩ = some (.slice A1_4 l1_4.length c1_4) ∧ w'.cell? ⟨gb160, 5, none⟩ = some (.slice A1_5 l1_5.length c1_5) ∧ w'.cell? ⟨gb160, 6, none⟩ = some (.slice (some ad170) l1_6.length c1_6) ∧ w'.cell? ad169 = some (.slice A169_0 (rd_L1 l0_6 0).length c169_0) ∧ w'.cell? ad170 = some (.slice A170_0 (rd_L1 l1_6 0).length c170_0) ∧ w'.cell? ⟨ad169.block, ad169.off + 1, none⟩ = some (.slice A174_0 (rd_L1 l0_6 1).length c174_0) ∧ w'.cell? ⟨ad170.block, ad170.off + 1, none⟩ = some (.slice A175_0 (rd_L1 l1_6 1).length c175_0)) ∧ (w'.heap[gb159]? = some (.cells #[.int .i64 a0_0, .int .i64 a0_1, .int .i64 a0_2, .int .i64 a0_3, .slice A0_4 l0_4.length c0_4, .slice A0_5 l0_5.length c0_5, .slice (some ad169) l0_6.length c0_6] 26 (0, 0))) ∧ (w'.heap[gb160]? = some (.cells #[.int .i64 a1_0, .int .i64 a1_1, .int .i64 a1_2, .int .i64 a1_3, .slice A1_4 l1_4.length c1_4, .slice A1_5 l1_5.length c1_5, .slice (some ad170) l1_6.length c1_6] 26 (0, 0))) ∧ (w'.heap[gb161]? = some (.cells #[.int .i64 0, .int .i64 0, .int .i64 0, .int .i64 0, .slice none 0 0, .slice none 0 0, .slice none 0 0] 26 (0, 0))) ∧ (w'.heap[s_]? = some (.cells #[.int .i64 0, .int .i64 0, .int .i64 0, .int .i64 0, .slice none 0 0, .slice none 0 0, .slice none 0 0] 26 (0, 0))) ∧ (w.heap.size ≤ s_) ∧ (w.heap.size ≤ s_) ∧ (gb159 ≠ s_) ∧ (s_ ≠ gb159) ∧ (gb160 ≠ s_) ∧ (s_ ≠ gb160) ∧ (gb161 ≠ s_) ∧ (s_ ≠ gb161) ∧ (Below w.heap.size w w')) ?_ ?_
                     rotate_left
                     ·intro hJ45
                      refine two_ (i := 4) (j := 45) (Ni := some 11) (Nj := some 5) #[true, true, true, true, true, true, true, true, true, false, true, true, true, true, false, true, true, true, true, false, true, true, true, true, false, true, true, true, true, true, true, true, true, false, true, true, true, true, true, true, true, true, false, false, false, false, false] #[true, true, true, true, false, true, true, true, true, false, true, true, true, true, false, true, true, true, true, false, true, true, true, true, false, true, true, true, true, true, true, true, true, false, true, true, true, true, true, true, true, true, false, false, false, true, false] rfl rfl rfl rfl (two_of HT_.out (by kernel_rfl)) (by decide) (by decide) (fun K hK => ?_) (fun K hK => ?_)
                      ·skip
                       refine goes_ Try.func84 (by kernel_rfl) rfl #[.int .i64 a0_0, .int .i64 a1_0] (by rfl) rfl rfl Z5x16 ?_
                       with_reducible refine (spec_Add.calls a0_0 a1_0 t162 _ A3.out).mono ?_
                       rintro e w' ⟨rfl, ⟨nd, rfl⟩⟩
                       refine ⟨_, rfl, ?_⟩;refine hK.out _ _ (Z5q BK159.out BK160.out ((HB.out.cell (World.block_lt_of_cell? w _ hw169_0)).trans hw169_0) ((HB.out.cell (World.block_lt_of_cell? w _ hw170_0)).trans hw170_0) ((HB.out.cell (World.block_lt_of_cell? w _ hw174_0)).trans hw174_0) ((HB.out.cell (World.block_lt_of_cell? w _ hw175_0)).trans hw175_0)) (fun hHeld => ?_);clear hK K;refine norm_ (a' := ?_) ?_ ?_
                       rotate_left
                       ·show Act.put _ (some 11) _ = _
                        simp only [Act.put, List.setIfInBounds_toArray, List.set_cons_zero, List.set_cons_succ, i64_w, i32_w]
                        rfl
                       exact norm_ Z5x5 (hJ4 () _ ⟨hHeld, Z5x2, Z5x3, Z5x4, Z5x0⟩)
                      ·skip
                       refine box_step ?hg (N := 5) ?hd (cs := #[.int .i64 0, .int .i64 0, .int .i64 0, .int .i64 0, .slice none 0 0, .slice none 0 0, .slice none 0 0]) (t := 26) ?hr ?_; (case hd => rfl); (case hg => rfl); (case hr => first | (go_simp; done) | (go_simp; rfl));intro gb182 hg w19 hbox hb;have n0_ := Aside0.mk (blk_below (g := gb159) (o := .cells #[.int .i64 a0_0, .int .i64 a0_1, .int .i64 a0_2, .int .i64 a0_3, .slice A0_4 l0_4.length c0_4, .slice A0_5 l0_5.length c0_5, .slice (some ad169) l0_6.length c0_6] 26 (0, 0)) Z5x2 hb);have n1_ := Aside0.mk (blk_below (g := gb160) (o := .cells #[.int .i64 a1_0, .int .i64 a1_1, .int .i64 a1_2, .int .i64 a1_3, .slice A1_4 l1_4.length c1_4, .slice A1_5 l1_5.length c1_5, .slice (some ad170) l1_6.length c1_6] 26 (0, 0)) Z5x3 hb);have n2_ := Aside0.mk (blk_below (g := gb161) (o := .cells #[.int .i64 0, .int .i64 0, .int .i64 0, .int .i64 0, .slice none 0 0, .slice none 0 0, .slice none 0 0] 26 (0, 0)) Z5x4 hb);have n3_ := Aside0.mk (below_step Z5x0 hb);have n4_ := Aside0.mk (hbox);have n5_ := Aside0.mk ((Z5x20 : w.heap.size ≤ gb182));have n6_ := Aside0.mk ((Z5x20 : w.heap.size ≤ gb182));have n7_ := Aside0.mk ((Z5x12 : gb159 ≠ gb182));have n8_ := Aside0.mk ((Z5x13 : gb182 ≠ gb159));have n9_ := Aside0.mk ((Z5x14 : gb160 ≠ gb182));have n10_ := Aside0.mk ((Z5x15 : gb182 ≠ gb160));have n11_ := Aside0.mk ((Z5x17 : gb161 ≠ gb182));have n12_ := Aside0.mk ((Z5x18 : gb182 ≠ gb161));clear BK159;clear BK160;clear BK161;clear HB;have BK159 := n0_;have BK160 := n1_;have BK161 := n2_;have HB := n3_;have BK182 := n4_;have GW182 := n5_;have GE182 := n6_;have NB159_182 := n7_;have NB182_159 := n8_;have NB160_182 := n9_;have NB182_160 := n10_;have NB161_182 := n11_;have NB182_161 := n12_;clear n0_ n1_ n2_ n3_ n4_ n5_ n6_ n7_ n8_ n9_ n10_ n11_ n12_;clear hb hbox hg;refine hK.out _ _ (Z5q BK159.out BK160.out ((HB.out.cell (World.block_lt_of_cell? w _ hw169_0)).trans hw169_0) ((HB.out.cell (World.block_lt_of_cell? w _ hw170_0)).trans hw170_0) ((HB.out.cell (World.block_lt_of_cell? w _ hw174_0)).trans hw174_0) ((HB.out.cell (World.block_lt_of_cell? w _ hw175_0)).trans hw175_0)) (fun hHeld => ?_);clear hK K;refine norm_ (a' := ?_) ?_ ?_
                       rotate_left
                       ·show Act.put _ (some 5) _ = _
                        simp only [Act.put, List.setIfInBounds_toArray, List.set_cons_zero, List.set_cons_succ, i64_w, i32_w]
                        rfl
                       exact norm_ Z5x5 (hJ45 (gb182) _ ⟨hHeld, Z5x2, Z5x3, Z5x4, Z5x10, GW182.out, GE182.out, NB159_182.out, NB182_159.out, NB160_182.out, NB182_160.out, NB161_182.out, NB182_161.out, Z5x1⟩)
                     ·skip
                      rintro gb182 w20 ⟨hS_, h0_, h1_, h2_, h3_, h4_, h5_, h6_, h7_, h8_, h9_, h10_, h11_, h12_⟩
                      have n0_ : Aside0 (w20.heap[gb159]? = some (.cells #[.int .i64 a0_0, .int .i64 a0_1, .int .i64 a0_2, .int .i64 a0_3, .slice A0_4 l0_4.length c0_4, .slice A0_5 l0_5.length c0_5, .slice (some ad169) l0_6.length c0_6] 26 (0, 0))) := ⟨h0_⟩;have n1_ : Aside0 (w20.heap[gb160]? = some (.cells #[.int .i64 a1_0, .int .i64 a1_1, .int .i64 a1_2, .int .i64 a1_3, .slice A1_4 l1_4.length c1_4, .slice A1_5 l1_5.length c1_5, .slice (some ad170) l1_6.length c1_6] 26 (0, 0))) := ⟨h1_⟩;have n2_ : Aside0 (w20.heap[gb161]? = some (.cells #[.int .i64 0, .int .i64 0, .int .i64 0, .int .i64 0, .slice none 0 0, .slice none 0 0, .slice none 0 0] 26 (0, 0))) := ⟨h2_⟩;have n3_ : Aside0 (w20.heap[gb182]? = some (.cells #[.int .i64 0, .int .i64 0, .int .i64 0, .int .i64 0, .slice none 0 0, .slice none 0 0, .slice none 0 0] 26 (0, 0))) := ⟨h3_⟩;have n4_ : Aside0 (w.heap.size ≤ gb182) := ⟨h4_⟩;have n5_ : Aside0 (w.heap.size ≤ gb182) := ⟨h5_⟩;have n6_ : Aside0 (gb159 ≠ gb182) := ⟨h6_⟩;have n7_ : Aside0 (gb182 ≠ gb159) := ⟨h7_⟩;have n8_ : Aside0 (gb160 ≠ gb182) := ⟨h8_⟩;have n9_ : Aside0 (gb182 ≠ gb160) := ⟨h9_⟩;have n10_ : Aside0 (gb161 ≠ gb182) := ⟨h10_⟩;have n11_ : Aside0 (gb182 ≠ gb161) := ⟨h11_⟩;have n12_ : Aside0 (Below w.heap.size w w20) := ⟨h12_⟩;clear BK159;clear BK160;clear BK161;clear HB;clear h0_ h1_ h2_ h3_ h4_ h5_ h6_ h7_ h8_ h9_ h10_ h11_ h12_;have BK159 := n0_;have BK160 := n1_;have BK161 := n2_;have BK182 := n3_;have GW182 := n4_;have GE182 := n5_;have NB159_182 := n6_;have NB182_159 := n7_;have NB160_182 := n8_;have NB182_160 := n9_;have NB161_182 := n10_;have NB182_161 := n11_;have HB := n12_;clear n0_ n1_ n2_ n3_ n4_ n5_ n6_ n7_ n8_ n9_ n10_ n11_ n12_;have hHeld := hS_;refine norm_ (a' := ?_) ?_ ?_
                      rotate_left
                      ·simp only [putAll, Act.put, List.setIfInBounds_toArray, List.set_cons_zero, List.set_cons_succ]
                       rfl
                      refine one_ (i := 4) (N := some 11) #[true, true, true, true, true, true, true, true, true, false, true, true, true, true, false, true, true, true, true, false, true, true, true, true, false, true, true, true, true, true, true, true, true, false, true, true, true, true, true, true, true, true, false, false, false, true, false] rfl rfl (one_of HT_.out (by kernel_rfl)) (by decide) (fun K hK => ?_);refine goes_ Try.func84 (by kernel_rfl) rfl #[.int .i64 a0_0, .int .i64 a1_0] (by rfl) rfl rfl Z5x16 ?_
                      with_reducible refine (spec_Add.calls a0_0 a1_0 t162 _ A3.out).mono ?_
                      rintro e w' ⟨rfl, ⟨nd, rfl⟩⟩
                      refine ⟨_, rfl, ?_⟩;refine hK.out _ _ (Z5q BK159.out BK160.out ((HB.out.cell (World.block_lt_of_cell? w _ hw169_0)).trans hw169_0) ((HB.out.cell (World.block_lt_of_cell? w _ hw170_0)).trans hw170_0) ((HB.out.cell (World.block_lt_of_cell? w _ hw174_0)).trans hw174_0) ((HB.out.cell (World.block_lt_of_cell? w _ hw175_0)).trans hw175_0)) (fun hHeld => ?_);clear hK K;refine norm_ (a' := ?_) ?_ ?_
                      rotate_left
                      ·show Act.put _ (some 11) _ = _
                       simp only [Act.put, List.setIfInBounds_toArray, List.set_cons_zero, List.set_cons_succ, i64_w, i32_w]
                       rfl
                      exact norm_ Z5x5 (hJ4_45 (gb182) _ ⟨hHeld, Z5x2, Z5x3, Z5x4, Z5x10, GW182.out, GE182.out, NB159_182.out, NB182_159.out, NB160_182.out, NB182_160.out, NB161_182.out, NB182_161.out, Z5x1⟩)
                    ·skip
                     rintro _ w19 ⟨hS_, h0_, h1_, h2_, h3_⟩
                     have n0_ : Aside0 (w19.heap[gb159]? = some (.cells #[.int .i64 a0_0, .int .i64 a0_1, .int .i64 a0_2, .int .i64 a0_3, .slice A0_4 l0_4.length c0_4, .slice A0_5 l0_5.length c0_5, .slice (some ad169) l0_6.length c0_6] 26 (0, 0))) := ⟨h0_⟩;have n1_ : Aside0 (w19.heap[gb160]? = some (.cells #[.int .i64 a1_0, .int .i64 a1_1, .int .i64 a1_2, .int .i64 a1_3, .slice A1_4 l1_4.length c1_4, .slice A1_5 l1_5.length c1_5, .slice (some ad170) l1_6.length c1_6] 26 (0, 0))) := ⟨h1_⟩;have n2_ : Aside0 (w19.heap[gb161]? = some (.cells #[.int .i64 0, .int .i64 0, .int .i64 0, .int .i64 0, .slice none 0 0, .slice none 0 0, .slice none 0 0] 26 (0, 0))) := ⟨h2_⟩;have n3_ : Aside0 (Below w.heap.size w w19) := ⟨h3_⟩;clear BK159;clear BK160;clear BK161;clear HB;clear h0_ h1_ h2_ h3_;have BK159 := n0_;have BK160 := n1_;have BK161 := n2_;have HB := n3_;clear n0_ n1_ n2_ n3_;have hHeld := hS_;refine norm_ (a' := ?_) ?_ ?_
                     rotate_left
                     ·simp only [putAll, Act.put, List.setIfInBounds_toArray, List.set_cons_zero, List.set_cons_succ]
                      rfl
                     refine two_ (i := 9) (j := 45) (Ni := some 16) (Nj := some 5) #[true, true, true, true, true, true, true, true, true, true, true, true, true, true, false, true, true, true, true, false, true, true, true, true, false, true, true, true, true, true, true, true, true, false, true, true, true, true, true, true, true, true, false, false, false, false, false] #[true, true, true, true, true, true, true, true, true, false, true, true, true, true, false, true, true, true, true, false, true, true, true, true, false, true, true, true, true, true, true, true, true, false, true, true, true, true, true, true, true, true, false, false, false, true, false] rfl rfl rfl rfl (two_of HT_.out (by kernel_rfl)) (by decide) (by decide) (fun K hK => ?_) (fun K hK => ?_)
                     ·skip
                      refine goes_ Try.func84 (by kernel_rfl) rfl #[.int .i64 a0_1, .int .i64 a1_1] (by rfl) rfl rfl Z5x16 ?_
                      with_reducible refine (spec_Add.calls a0_1 a1_1 t163 _ A4.out).mono ?_
                      rintro e w' ⟨rfl, ⟨nd, rfl⟩⟩
                      refine ⟨_, rfl, ?_⟩;refine hK.out _ _ (Z5q BK159.out BK160.out ((HB.out.cell (World.block_lt_of_cell? w _ hw169_0)).trans hw169_0) ((HB.out.cell (World.block_lt_of_cell? w _ hw170_0)).trans hw170_0) ((HB.out.cell (World.block_lt_of_cell? w _ hw174_0)).trans hw174_0) ((HB.out.cell (World.block_lt_of_cell? w _ hw175_0)).trans hw175_0)) (fun hHeld => ?_);clear hK K;refine norm_ (a' := ?_) ?_ ?_
                      rotate_left
                      ·show Act.put _ (some 16) _ = _
                       simp only [Act.put, List.setIfInBounds_toArray, List.set_cons_zero, List.set_cons_succ, i64_w, i32_w]
                       rfl
                      exact norm_ Z5x5 (hJ4_9 () _ ⟨hHeld, Z5x2, Z5x3, Z5x4, Z5x0⟩)
                     ·skip
                      refine box_step ?hg (N := 5) ?hd (cs := #[.int .i64 0, .int .i64 0, .int .i64 0, .int .i64 0, .slice none 0 0, .slice none 0 0, .slice none 0 0]) (t := 26) ?hr ?_; (case hd => rfl); (case hg => rfl); (case hr => first | (go_simp; done) | (go_simp; rfl));intro gb182 hg w20 hbox hb;have n0_ := Aside0.mk (blk_below (g := gb159) (o := .cells #[.int .i64 a0_0, .int .i64 a0_1, .int .i64 a0_2, .int .i64 a0_3, .slice A0_4 l0_4.length c0_4, .slice A0_5 l0_5.length c0_5, .slice (some ad169) l0_6.length c0_6] 26 (0, 0)) Z5x2 hb);have n1_ := Aside0.mk (blk_below (g := gb160) (o := .cells #[.int .i64 a1_0, .int .i64 a1_1, .int .i64 a1_2, .int .i64 a1_3, .slice A1_4 l1_4.length c1_4, .slice A1_5 l1_5.length c1_5, .slice (some ad170) l1_6.length c1_6] 26 (0, 0)) Z5x3 hb);have n2_ := Aside0.mk (blk_below (g := gb161) (o := .cells #[.int .i64 0, .int .i64 0, .int .i64 0, .int .i64 0, .slice none 0 0, .slice none 0 0, .slice none 0 0] 26 (0, 0)) Z5x4 hb);have n3_ := Aside0.mk (below_step Z5x0 hb);have n4_ := Aside0.mk (hbox);have n5_ := Aside0.mk ((Z5x20 : w.heap.size ≤ gb182));have n6_ := Aside0.mk ((Z5x20 : w.heap.size ≤ gb182));have n7_ := Aside0.mk ((Z5x12 : gb159 ≠ gb182));have n8_ := Aside0.mk ((Z5x13 : gb182 ≠ gb159));have n9_ := Aside0.mk ((Z5x14 : gb160 ≠ gb182));have n10_ := Aside0.mk ((Z5x15 : gb182 ≠ gb160));have n11_ := Aside0.mk ((Z5x17 : gb161 ≠ gb182));have n12_ := Aside0.mk ((Z5x18 : gb182 ≠ gb161));clear BK159;clear BK160;clear BK161;clear HB;have BK159 := n0_;have BK160 := n1_;have BK161 := n2_;have HB := n3_;have BK182 := n4_;have GW182 := n5_;have GE182 := n6_;have NB159_182 := n7_;have NB182_159 := n8_;have NB160_182 := n9_;have NB182_160 := n10_;have NB161_182 := n11_;have NB182_161 := n12_;clear n0_ n1_ n2_ n3_ n4_ n5_ n6_ n7_ n8_ n9_ n10_ n11_ n12_;clear hb hbox hg;refine hK.out _ _ (Z5q BK159.out BK160.out ((HB.out.cell (World.block_lt_of_cell? w _ hw169_0)).trans hw169_0) ((HB.out.cell (World.block_lt_of_cell? w _ hw170_0)).trans hw170_0) ((HB.out.cell (World.block_lt_of_cell? w _ hw174_0)).trans hw174_0) ((HB.out.cell (World.block_lt_of_cell? w _ hw175_0)).trans hw175_0)) (fun hHeld => ?_);clear hK K;refine norm_ (a' := ?_) ?_ ?_
                      rotate_left
                      ·show Act.put _ (some 5) _ = _
                       simp only [Act.put, List.setIfInBounds_toArray, List.set_cons_zero, List.set_cons_succ, i64_w, i32_w]
                       rfl
                      exact norm_ Z5x5 (hJ4_45 (gb182) _ ⟨hHeld, Z5x2, Z5x3, Z5x4, Z5x10, GW182.out, GE182.out, NB159_182.out, NB182_159.out, NB160_182.out, NB182_160.out, NB161_182.out, NB182_161.out, Z5x1⟩)
                   ·skip
                    rintro gb182 w20 ⟨hS_, h0_, h1_, h2_, h3_, h4_, h5_, h6_, h7_, h8_, h9_, h10_, h11_, h12_⟩
                    have n0_ : Aside0 (w20.heap[gb159]? = some (.cells #[.int .i64 a0_0, .int .i64 a0_1, .int .i64 a0_2, .int .i64 a0_3, .slice A0_4 l0_4.length c0_4, .slice A0_5 l0_5.length c0_5, .slice (some ad169) l0_6.length c0_6] 26 (0, 0))) := ⟨h0_⟩;have n1_ : Aside0 (w20.heap[gb160]? = some (.cells #[.int .i64 a1_0, .int .i64 a1_1, .int .i64 a1_2, .int .i64 a1_3, .slice A1_4 l1_4.length c1_4, .slice A1_5 l1_5.length c1_5, .slice (some ad170) l1_6.length c1_6] 26 (0, 0))) := ⟨h1_⟩;have n2_ : Aside0 (w20.heap[gb161]? = some (.cells #[.int .i64 0, .int .i64 0, .int .i64 0, .int .i64 0, .slice none 0 0, .slice none 0 0, .slice none 0 0] 26 (0, 0))) := ⟨h2_⟩;have n3_ : Aside0 (w20.heap[gb182]? = some (.cells #[.int .i64 0, .int .i64 0, .int .i64 0, .int .i64 0, .slice none 0 0, .slice none 0 0, .slice none 0 0] 26 (0, 0))) := ⟨h3_⟩;have n4_ : Aside0 (w.heap.size ≤ gb182) := ⟨h4_⟩;have n5_ : Aside0 (w.heap.size ≤ gb182) := ⟨h5_⟩;have n6_ : Aside0 (gb159 ≠ gb182) := ⟨h6_⟩;have n7_ : Aside0 (gb182 ≠ gb159) := ⟨h7_⟩;have n8_ : Aside0 (gb160 ≠ gb182) := ⟨h8_⟩;have n9_ : Aside0 (gb182 ≠ gb160) := ⟨h9_⟩;have n10_ : Aside0 (gb161 ≠ gb182) := ⟨h10_⟩;have n11_ : Aside0 (gb182 ≠ gb161) := ⟨h11_⟩;have n12_ : Aside0 (Below w.heap.size w w20) := ⟨h12_⟩;clear BK159;clear BK160;clear BK161;clear HB;clear h0_ h1_ h2_ h3_ h4_ h5_ h6_ h7_ h8_ h9_ h10_ h11_ h12_;have BK159 := n0_;have BK160 := n1_;have BK161 := n2_;have BK182 := n3_;have GW182 := n4_;have GE182 := n5_;have NB159_182 := n6_;have NB182_159 := n7_;have NB160_182 := n8_;have NB182_160 := n9_;have NB161_182 := n10_;have NB182_161 := n11_;have HB := n12_;clear n0_ n1_ n2_ n3_ n4_ n5_ n6_ n7_ n8_ n9_ n10_ n11_ n12_;have hHeld := hS_;refine norm_ (a' := ?_) ?_ ?_
                    rotate_left
                    ·simp only [putAll, Act.put, List.setIfInBounds_toArray, List.set_cons_zero, List.set_cons_succ]
                     rfl
                    refine one_ (i := 9) (N := some 16) #[true, true, true, true, true, true, true, true, true, true, true, true, true, true, false, true, true, true, true, false, true, true, true, true, false, true, true, true, true, true, true, true, true, false, true, true, true, true, true, true, true, true, false, false, false, true, false] rfl rfl (one_of HT_.out (by kernel_rfl)) (by decide) (fun K hK => ?_);refine goes_ Try.func84 (by kernel_rfl) rfl #[.int .i64 a0_1, .int .i64 a1_1] (by rfl) rfl rfl Z5x16 ?_
                    with_reducible refine (spec_Add.calls a0_1 a1_1 t163 _ A4.out).mono ?_
                    rintro e w' ⟨rfl, ⟨nd, rfl⟩⟩
                    refine ⟨_, rfl, ?_⟩;refine hK.out _ _ (Z5q BK159.out BK160.out ((HB.out.cell (World.block_lt_of_cell? w _ hw169_0)).trans hw169_0) ((HB.out.cell (World.block_lt_of_cell? w _ hw170_0)).trans hw170_0) ((HB.out.cell (World.block_lt_of_cell? w _ hw174_0)).trans hw174_0) ((HB.out.cell (World.block_lt_of_cell? w _ hw175_0)).trans hw175_0)) (fun hHeld => ?_);clear hK K;refine norm_ (a' := ?_) ?_ ?_
                    rotate_left
                    ·show Act.put _ (some 16) _ = _
                     simp only [Act.put, List.setIfInBounds_toArray, List.set_cons_zero, List.set_cons_succ, i64_w, i32_w]
                     rfl
                    exact norm_ Z5x5 (hJ4_9_45 (gb182) _ ⟨hHeld, Z5x2, Z5x3, Z5x4, Z5x10, GW182.out, GE182.out, NB159_182.out, NB182_159.out, NB160_182.out, NB182_160.out, NB161_182.out, NB182_161.out, Z5x1⟩)
                  ·skip
                   rintro _ w19 ⟨hS_, h0_, h1_, h2_, h3_⟩
                   have n0_ : Aside0 (w19.heap[gb159]? = some (.cells #[.int .i64 a0_0, .int .i64 a0_1, .int .i64 a0_2, .int .i64 a0_3, .slice A0_4 l0_4.length c0_4, .slice A0_5 l0_5.length c0_5, .slice (some ad169) l0_6.length c0_6] 26 (0, 0))) := ⟨h0_⟩;have n1_ : Aside0 (w19.heap[gb160]? = some (.cells #[.int .i64 a1_0, .int .i64 a1_1, .int .i64 a1_2, .int .i64 a1_3, .slice A1_4 l1_4.length c1_4, .slice A1_5 l1_5.length c1_5, .slice (some ad170) l1_6.length c1_6] 26 (0, 0))) := ⟨h1_⟩;have n2_ : Aside0 (w19.heap[gb161]? = some (.cells #[.int .i64 0, .int .i64 0, .int .i64 0, .int .i64 0, .slice none 0 0, .slice none 0 0, .slice none 0 0] 26 (0, 0))) := ⟨h2_⟩;have n3_ : Aside0 (Below w.heap.size w w19) := ⟨h3_⟩;clear BK159;clear BK160;clear BK161;clear HB;clear h0_ h1_ h2_ h3_;have BK159 := n0_;have BK160 := n1_;have BK161 := n2_;have HB := n3_;clear n0_ n1_ n2_ n3_;have hHeld := hS_;refine norm_ (a' := ?_) ?_ ?_
                   rotate_left
                   ·simp only [putAll, Act.put, List.setIfInBounds_toArray, List.set_cons_zero, List.set_cons_succ]
                    rfl
                   refine two_ (i := 14) (j := 45) (Ni := some 21) (Nj := some 5) #[true, true, true, true, true, true, true, true, true, true, true, true, true, true, true, true, true, true, true, false, true, true, true, true, false, true, true, true, true, true, true, true, true, false, true, true, true, true, true, true, true, true, false, false, false, false, false] #[true, true, true, true, true, true, true, true, true, true, true, true, true, true, false, true, true, true, true, false, true, true, true, true, false, true, true, true, true, true, true, true, true, false, true, true, true, true, true, true, true, true, false, false, false, true, false] rfl rfl rfl rfl (two_of HT_.out (by kernel_rfl)) (by decide) (by decide) (fun K hK => ?_) (fun K hK => ?_)
                   ·skip
                    refine goes_ Try.func85 (by kernel_rfl) rfl #[.int .i64 a0_2, .int .i64 a1_2] (by rfl) rfl rfl Z5x16 ?_
                    with_reducible refine (spec_l1Min.calls a0_2 a1_2 t164 _ A5.out).mono ?_
                    rintro e w' ⟨rfl, ⟨nd, rfl⟩⟩
                    refine ⟨_, rfl, ?_⟩;refine hK.out _ _ (Z5q BK159.out BK160.out ((HB.out.cell (World.block_lt_of_cell? w _ hw169_0)).trans hw169_0) ((HB.out.cell (World.block_lt_of_cell? w _ hw170_0)).trans hw170_0) ((HB.out.cell (World.block_lt_of_cell? w _ hw174_0)).trans hw174_0) ((HB.out.cell (World.block_lt_of_cell? w _ hw175_0)).trans hw175_0)) (fun hHeld => ?_);clear hK K;refine norm_ (a' := ?_) ?_ ?_
                    rotate_left
                    ·show Act.put _ (some 21) _ = _
                     simp only [Act.put, List.setIfInBounds_toArray, List.set_cons_zero, List.set_cons_succ, i64_w, i32_w]
                     rfl
                    exact norm_ Z5x5 (hJ4_9_14 () _ ⟨hHeld, Z5x2, Z5x3, Z5x4, Z5x0⟩)
                   ·skip
                    refine box_step ?hg (N := 5) ?hd (cs := #[.int .i64 0, .int .i64 0, .int .i64 0, .int .i64 0, .slice none 0 0, .slice none 0 0, .slice none 0 0]) (t := 26) ?hr ?_; (case hd => rfl); (case hg => rfl); (case hr => first | (go_simp; done) | (go_simp; rfl));intro gb182 hg w20 hbox hb;have n0_ := Aside0.mk (blk_below (g := gb159) (o := .cells #[.int .i64 a0_0, .int .i64 a0_1, .int .i64 a0_2, .int .i64 a0_3, .slice A0_4 l0_4.length c0_4, .slice A0_5 l0_5.length c0_5, .slice (some ad169) l0_6.length c0_6] 26 (0, 0)) Z5x2 hb);have n1_ := Aside0.mk (blk_below (g := gb160) (o := .cells #[.int .i64 a1_0, .int .i64 a1_1, .int .i64 a1_2, .int .i64 a1_3, .slice A1_4 l1_4.length c1_4, .slice A1_5 l1_5.length c1_5, .slice (some ad170) l1_6.length c1_6] 26 (0, 0)) Z5x3 hb);have n2_ := Aside0.mk (blk_below (g := gb161) (o := .cells #[.int .i64 0, .int .i64 0, .int .i64 0, .int .i64 0, .slice none 0 0, .slice none 0 0, .slice none 0 0] 26 (0, 0)) Z5x4 hb);have n3_ := Aside0.mk (below_step Z5x0 hb);have n4_ := Aside0.mk (hbox);have n5_ := Aside0.mk ((Z5x20 : w.heap.size ≤ gb182));have n6_ := Aside0.mk ((Z5x20 : w.heap.size ≤ gb182));have n7_ := Aside0.mk ((Z5x12 : gb159 ≠ gb182));have n8_ := Aside0.mk ((Z5x13 : gb182 ≠ gb159));have n9_ := Aside0.mk ((Z5x14 : gb160 ≠ gb182));have n10_ := Aside0.mk ((Z5x15 : gb182 ≠ gb160));have n11_ := Aside0.mk ((Z5x17 : gb161 ≠ gb182));have n12_ := Aside0.mk ((Z5x18 : gb182 ≠ gb161));clear BK159;clear BK160;clear BK161;clear HB;have BK159 := n0_;have BK160 := n1_;have BK161 := n2_;have HB := n3_;have BK182 := n4_;have GW182 := n5_;have GE182 := n6_;have NB159_182 := n7_;have NB182_159 := n8_;have NB160_182 := n9_;have NB182_160 := n10_;have NB161_182 := n11_;have NB182_161 := n12_;clear n0_ n1_ n2_ n3_ n4_ n5_ n6_ n7_ n8_ n9_ n10_ n11_ n12_;clear hb hbox hg;refine hK.out _ _ (Z5q BK159.out BK160.out ((HB.out.cell (World.block_lt_of_cell? w _ hw169_0)).trans hw169_0) ((HB.out.cell (World.block_lt_of_cell? w _ hw170_0)).trans hw170_0) ((HB.out.cell (World.block_lt_of_cell? w _ hw174_0)).trans hw174_0) ((HB.out.cell (World.block_lt_of_cell? w _ hw175_0)).trans hw175_0)) (fun hHeld => ?_);clear hK K;refine norm_ (a' := ?_) ?_ ?_
                    rotate_left
                    ·show Act.put _ (some 5) _ = _
                     simp only [Act.put, List.setIfInBounds_toArray, List.set_cons_zero, List.set_cons_succ, i64_w, i32_w]
                     rfl
                    exact norm_ Z5x5 (hJ4_9_45 (gb182) _ ⟨hHeld, Z5x2, Z5x3, Z5x4, Z5x10, GW182.out, GE182.out, NB159_182.out, NB182_159.out, NB160_182.out, NB182_160.out, NB161_182.out, NB182_161.out, Z5x1⟩)
                 ·skip
                  rintro gb182 w20 ⟨hS_, h0_, h1_, h2_, h3_, h4_, h5_, h6_, h7_, h8_, h9_, h10_, h11_, h12_⟩
                  have n0_ : Aside0 (w20.heap[gb159]? = some (.cells #[.int .i64 a0_0, .int .i64 a0_1, .int .i64 a0_2, .int .i64 a0_3, .slice A0_4 l0_4.length c0_4, .slice A0_5 l0_5.length c0_5, .slice (some ad169) l0_6.length c0_6] 26 (0, 0))) := ⟨h0_⟩;have n1_ : Aside0 (w20.heap[gb160]? = some (.cells #[.int .i64 a1_0, .int .i64 a1_1, .int .i64 a1_2, .int .i64 a1_3, .slice A1_4 l1_4.length c1_4, .slice A1_5 l1_5.length c1_5, .slice (some ad170) l1_6.length c1_6] 26 (0, 0))) := ⟨h1_⟩;have n2_ : Aside0 (w20.heap[gb161]? = some (.cells #[.int .i64 0, .int .i64 0, .int .i64 0, .int .i64 0, .slice none 0 0, .slice none 0 0, .slice none 0 0] 26 (0, 0))) := ⟨h2_⟩;have n3_ : Aside0 (w20.heap[gb182]? = some (.cells #[.int .i64 0, .int .i64 0, .int .i64 0, .int .i64 0, .slice none 0 0, .slice none 0 0, .slice none 0 0] 26 (0, 0))) := ⟨h3_⟩;have n4_ : Aside0 (w.heap.size ≤ gb182) := ⟨h4_⟩;have n5_ : Aside0 (w.heap.size ≤ gb182) := ⟨h5_⟩;have n6_ : Aside0 (gb159 ≠ gb182) := ⟨h6_⟩;have n7_ : Aside0 (gb182 ≠ gb159) := ⟨h7_⟩;have n8_ : Aside0 (gb160 ≠ gb182) := ⟨h8_⟩;have n9_ : Aside0 (gb182 ≠ gb160) := ⟨h9_⟩;have n10_ : Aside0 (gb161 ≠ gb182) := ⟨h10_⟩;have n11_ : Aside0 (gb182 ≠ gb161) := ⟨h11_⟩;have n12_ : Aside0 (Below w.heap.size w w20) := ⟨h12_⟩;clear BK159;clear BK160;clear BK161;clear HB;clear h0_ h1_ h2_ h3_ h4_ h5_ h6_ h7_ h8_ h9_ h10_ h11_ h12_;have BK159 := n0_;have BK160 := n1_;have BK161 := n2_;have BK182 := n3_;have GW182 := n4_;have GE182 := n5_;have NB159_182 := n6_;have NB182_159 := n7_;have NB160_182 := n8_;have NB182_160 := n9_;have NB161_182 := n10_;have NB182_161 := n11_;have HB := n12_;clear n0_ n1_ n2_ n3_ n4_ n5_ n6_ n7_ n8_ n9_ n10_ n11_ n12_;have hHeld := hS_;refine norm_ (a' := ?_) ?_ ?_
                  rotate_left
                  ·simp only [putAll, Act.put, List.setIfInBounds_toArray, List.set_cons_zero, List.set_cons_succ]
                   rfl
                  refine one_ (i := 14) (N := some 21) #[true, true, true, true, true, true, true, true, true, true, true, true, true, true, true, true, true, true, true, false, true, true, true, true, false, true, true, true, true, true, true, true, true, false, true, true, true, true, true, true, true, true, false, false, false, true, false] rfl rfl (one_of HT_.out (by kernel_rfl)) (by decide) (fun K hK => ?_);refine goes_ Try.func85 (by kernel_rfl) rfl #[.int .i64 a0_2, .int .i64 a1_2] (by rfl) rfl rfl Z5x16 ?_
                  with_reducible refine (spec_l1Min.calls a0_2 a1_2 t164 _ A5.out).mono ?_
                  rintro e w' ⟨rfl, ⟨nd, rfl⟩⟩
                  refine ⟨_, rfl, ?_⟩;refine hK.out _ _ (Z5q BK159.out BK160.out ((HB.out.cell (World.block_lt_of_cell? w _ hw169_0)).trans hw169_0) ((HB.out.cell (World.block_lt_of_cell? w _ hw170_0)).trans hw170_0) ((HB.out.cell (World.block_lt_of_cell? w _ hw174_0)).trans hw174_0) ((HB.out.cell (World.block_lt_of_cell? w _ hw175_0)).trans hw175_0)) (fun hHeld => ?_);clear hK K;refine norm_ (a' := ?_) ?_ ?_
                  rotate_left
                  ·show Act.put _ (some 21) _ = _
                   simp only [Act.put, List.setIfInBounds_toArray, List.set_cons_zero, List.set_cons_succ, i64_w, i32_w]
                   rfl
                  exact norm_ Z5x5 (hJ4_9_14_45 (gb182) _ ⟨hHeld, Z5x2, Z5x3, Z5x4, Z5x10, GW182.out, GE182.out, NB159_182.out, NB182_159.out, NB160_182.out, NB182_160.out, NB161_182.out, NB182_161.out, Z5x1⟩)
                ·skip
                 rintro _ w19 ⟨hS_, h0_, h1_, h2_, h3_⟩
                 have n0_ : Aside0 (w19.heap[gb159]? = some (.cells #[.int .i64 a0_0, .int .i64 a0_1, .int .i64 a0_2, .int .i64 a0_3, .slice A0_4 l0_4.length c0_4, .slice A0_5 l0_5.length c0_5, .slice (some ad169) l0_6.length c0_6] 26 (0, 0))) := ⟨h0_⟩;have n1_ : Aside0 (w19.heap[gb160]? = some (.cells #[.int .i64 a1_0, .int .i64 a1_1, .int .i64 a1_2, .int .i64 a1_3, .slice A1_4 l1_4.length c1_4, .slice A1_5 l1_5.length c1_5, .slice (some ad170) l1_6.length c1_6] 26 (0, 0))) := ⟨h1_⟩;have n2_ : Aside0 (w19.heap[gb161]? = some (.cells #[.int .i64 0, .int .i64 0, .int .i64 0, .int .i64 0, .slice none 0 0, .slice none 0 0, .slice none 0 0] 26 (0, 0))) := ⟨h2_⟩;have n3_ : Aside0 (Below w.heap.size w w19) := ⟨h3_⟩;clear BK159;clear BK160;clear BK161;clear HB;clear h0_ h1_ h2_ h3_;have BK159 := n0_;have BK160 := n1_;have BK161 := n2_;have HB := n3_;clear n0_ n1_ n2_ n3_;have hHeld := hS_;refine norm_ (a' := ?_) ?_ ?_
                 rotate_left
                 ·simp only [putAll, Act.put, List.setIfInBounds_toArray, List.set_cons_zero, List.set_cons_succ]
                  rfl
                 refine two_ (i := 19) (j := 45) (Ni := some 26) (Nj := some 5) #[true, true, true, true, true, true, true, true, true, true, true, true, true, true, true, true, true, true, true, true, true, true, true, true, false, true, true, true, true, true, true, true, true, false, true, true, true, true, true, true, true, true, false, false, false, false, false] #[true, true, true, true, true, true, true, true, true, true, true, true, true, true, true, true, true, true, true, false, true, true, true, true, false, true, true, true, true, true, true, true, true, false, true, true, true, true, true, true, true, true, false, false, false, true, false] rfl rfl rfl rfl (two_of HT_.out (by kernel_rfl)) (by decide) (by decide) (fun K hK => ?_) (fun K hK => ?_)
                 ·skip
                  refine goes_ Try.func86 (by kernel_rfl) rfl #[.int .i64 a0_3, .int .i64 a1_3] (by rfl) rfl rfl Z5x16 ?_
                  with_reducible refine (spec_l1Max.calls a0_3 a1_3 t165 _ A6.out).mono ?_
                  rintro e w' ⟨rfl, ⟨nd, rfl⟩⟩
                  refine ⟨_, rfl, ?_⟩;refine hK.out _ _ (Z5q BK159.out BK160.out ((HB.out.cell (World.block_lt_of_cell? w _ hw169_0)).trans hw169_0) ((HB.out.cell (World.block_lt_of_cell? w _ hw170_0)).trans hw170_0) ((HB.out.cell (World.block_lt_of_cell? w _ hw174_0)).trans hw174_0) ((HB.out.cell (World.block_lt_of_cell? w _ hw175_0)).trans hw175_0)) (fun hHeld => ?_);clear hK K;refine norm_ (a' := ?_) ?_ ?_
                  rotate_left
                  ·show Act.put _ (some 26) _ = _
                   simp only [Act.put, List.setIfInBounds_toArray, List.set_cons_zero, List.set_cons_succ, i64_w, i32_w]
                   rfl
                  exact norm_ Z5x5 (hJ4_9_14_19 () _ ⟨hHeld, Z5x2, Z5x3, Z5x4, Z5x0⟩)
                 ·skip
                  refine box_step ?hg (N := 5) ?hd (cs := #[.int .i64 0, .int .i64 0, .int .i64 0, .int .i64 0, .slice none 0 0, .slice none 0 0, .slice none 0 0]) (t := 26) ?hr ?_; (case hd => rfl); (case hg => rfl); (case hr => first | (go_simp; done) | (go_simp; rfl));intro gb182 hg w20 hbox hb;have n0_ := Aside0.mk (blk_below (g := gb159) (o := .cells #[.int .i64 a0_0, .int .i64 a0_1, .int .i64 a0_2, .int .i64 a0_3, .slice A0_4 l0_4.length c0_4, .slice A0_5 l0_5.length c0_5, .slice (some ad169) l0_6.length c0_6] 26 (0, 0)) Z5x2 hb);have n1_ := Aside0.mk (blk_below (g := gb160) (o := .cells #[.int .i64 a1_0, .int .i64 a1_1, .int .i64 a1_2, .int .i64 a1_3, .slice A1_4 l1_4.length c1_4, .slice A1_5 l1_5.length c1_5, .slice (some ad170) l1_6.length c1_6] 26 (0, 0)) Z5x3 hb);have n2_ := Aside0.mk (blk_below (g := gb161) (o := .cells #[.int .i64 0, .int .i64 0, .int .i64 0, .int .i64 0, .slice none 0 0, .slice none 0 0, .slice none 0 0] 26 (0, 0)) Z5x4 hb);have n3_ := Aside0.mk (below_step Z5x0 hb);have n4_ := Aside0.mk (hbox);have n5_ := Aside0.mk ((Z5x20 : w.heap.size ≤ gb182));have n6_ := Aside0.mk ((Z5x20 : w.heap.size ≤ gb182));have n7_ := Aside0.mk ((Z5x12 : gb159 ≠ gb182));have n8_ := Aside0.mk ((Z5x13 : gb182 ≠ gb159));have n9_ := Aside0.mk ((Z5x14 : gb160 ≠ gb182));have n10_ := Aside0.mk ((Z5x15 : gb182 ≠ gb160));have n11_ := Aside0.mk ((Z5x17 : gb161 ≠ gb182));have n12_ := Aside0.mk ((Z5x18 : gb182 ≠ gb161));clear BK159;clear BK160;clear BK161;clear HB;have BK159 := n0_;have BK160 := n1_;have BK161 := n2_;have HB := n3_;have BK182 := n4_;have GW182 := n5_;have GE182 := n6_;have NB159_182 := n7_;have NB182_159 := n8_;have NB160_182 := n9_;have NB182_160 := n10_;have NB161_182 := n11_;have NB182_161 := n12_;clear n0_ n1_ n2_ n3_ n4_ n5_ n6_ n7_ n8_ n9_ n10_ n11_ n12_;clear hb hbox hg;refine hK.out _ _ (Z5q BK159.out BK160.out ((HB.out.cell (World.block_lt_of_cell? w _ hw169_0)).trans hw169_0) ((HB.out.cell (World.block_lt_of_cell? w _ hw170_0)).trans hw170_0) ((HB.out.cell (World.block_lt_of_cell? w _ hw174_0)).trans hw174_0) ((HB.out.cell (World.block_lt_of_cell? w _ hw175_0)).trans hw175_0)) (fun hHeld => ?_);clear hK K;refine norm_ (a' := ?_) ?_ ?_
                  rotate_left
                  ·show Act.put _ (some 5) _ = _
                   simp only [Act.put, List.setIfInBounds_toArray, List.set_cons_zero, List.set_cons_succ, i64_w, i32_w]
                   rfl
                  exact norm_ Z5x5 (hJ4_9_14_45 (gb182) _ ⟨hHeld, Z5x2, Z5x3, Z5x4, Z5x10, GW182.out, GE182.out, NB159_182.out, NB182_159.out, NB160_182.out, NB182_160.out, NB161_182.out, NB182_161.out, Z5x1⟩)
               ·skip
                rintro gb182 w20 ⟨hS_, h0_, h1_, h2_, h3_, h4_, h5_, h6_, h7_, h8_, h9_, h10_, h11_, h12_⟩
                have n0_ : Aside0 (w20.heap[gb159]? = some (.cells #[.int .i64 a0_0, .int .i64 a0_1, .int .i64 a0_2, .int .i64 a0_3, .slice A0_4 l0_4.length c0_4, .slice A0_5 l0_5.length c0_5, .slice (some ad169) l0_6.length c0_6] 26 (0, 0))) := ⟨h0_⟩;have n1_ : Aside0 (w20.heap[gb160]? = some (.cells #[.int .i64 a1_0, .int .i64 a1_1, .int .i64 a1_2, .int .i64 a1_3, .slice A1_4 l1_4.length c1_4, .slice A1_5 l1_5.length c1_5, .slice (some ad170) l1_6.length c1_6] 26 (0, 0))) := ⟨h1_⟩;have n2_ : Aside0 (w20.heap[gb161]? = some (.cells #[.int .i64 0, .int .i64 0, .int .i64 0, .int .i64 0, .slice none 0 0, .slice none 0 0, .slice none 0 0] 26 (0, 0))) := ⟨h2_⟩;have n3_ : Aside0 (w20.heap[gb182]? = some (.cells #[.int .i64 0, .int .i64 0, .int .i64 0, .int .i64 0, .slice none 0 0, .slice none 0 0, .slice none 0 0] 26 (0, 0))) := ⟨h3_⟩;have n4_ : Aside0 (w.heap.size ≤ gb182) := ⟨h4_⟩;have n5_ : Aside0 (w.heap.size ≤ gb182) := ⟨h5_⟩;have n6_ : Aside0 (gb159 ≠ gb182) := ⟨h6_⟩;have n7_ : Aside0 (gb182 ≠ gb159) := ⟨h7_⟩;have n8_ : Aside0 (gb160 ≠ gb182) := ⟨h8_⟩;have n9_ : Aside0 (gb182 ≠ gb160) := ⟨h9_⟩;have n10_ : Aside0 (gb161 ≠ gb182) := ⟨h10_⟩;have n11_ : Aside0 (gb182 ≠ gb161) := ⟨h11_⟩;have n12_ : Aside0 (Below w.heap.size w w20) := ⟨h12_⟩;clear BK159;clear BK160;clear BK161;clear HB;clear h0_ h1_ h2_ h3_ h4_ h5_ h6_ h7_ h8_ h9_ h10_ h11_ h12_;have BK159 := n0_;have BK160 := n1_;have BK161 := n2_;have BK182 := n3_;have GW182 := n4_;have GE182 := n5_;have NB159_182 := n6_;have NB182_159 := n7_;have NB160_182 := n8_;have NB182_160 := n9_;have NB161_182 := n10_;have NB182_161 := n11_;have HB := n12_;clear n0_ n1_ n2_ n3_ n4_ n5_ n6_ n7_ n8_ n9_ n10_ n11_ n12_;have hHeld := hS_;refine norm_ (a' := ?_) ?_ ?_
                rotate_left
                ·simp only [putAll, Act.put, List.setIfInBounds_toArray, List.set_cons_zero, List.set_cons_succ]
                 rfl
                refine one_ (i := 19) (N := some 26) #[true, true, true, true, true, true, true, true, true, true, true, true, true, true, true, true, true, true, true, true, true, true, true, true, false, true, true, true, true, true, true, true, true, false, true, true, true, true, true, true, true, true, false, false, false, true, false] rfl rfl (one_of HT_.out (by kernel_rfl)) (by decide) (fun K hK => ?_);refine goes_ Try.func86 (by kernel_rfl) rfl #[.int .i64 a0_3, .int .i64 a1_3] (by rfl) rfl rfl Z5x16 ?_
                with_reducible refine (spec_l1Max.calls a0_3 a1_3 t165 _ A6.out).mono ?_
                rintro e w' ⟨rfl, ⟨nd, rfl⟩⟩
                refine ⟨_, rfl, ?_⟩;refine hK.out _ _ (Z5q BK159.out BK160.out ((HB.out.cell (World.block_lt_of_cell? w _ hw169_0)).trans hw169_0) ((HB.out.cell (World.block_lt_of_cell? w _ hw170_0)).trans hw170_0) ((HB.out.cell (World.block_lt_of_cell? w _ hw174_0)).trans hw174_0) ((HB.out.cell (World.block_lt_of_cell? w _ hw175_0)).trans hw175_0)) (fun hHeld => ?_);clear hK K;refine norm_ (a' := ?_) ?_ ?_
                rotate_left
                ·show Act.put _ (some 26) _ = _
                 simp only [Act.put, List.setIfInBounds_toArray, List.set_cons_zero, List.set_cons_succ, i64_w, i32_w]
                 rfl
                exact norm_ Z5x5 (hJ4_9_14_19_45 (gb182) _ ⟨hHeld, Z5x2, Z5x3, Z5x4, Z5x10, GW182.out, GE182.out, NB159_182.out, NB182_159.out, NB160_182.out, NB182_160.out, NB161_182.out, NB182_161.out, Z5x1⟩)
              ·skip
               rintro _ w19 ⟨hS_, h0_, h1_, h2_, h3_⟩
               have n0_ : Aside0 (w19.heap[gb159]? = some (.cells #[.int .i64 a0_0, .int .i64 a0_1, .int .i64 a0_2, .int .i64 a0_3, .slice A0_4 l0_4.length c0_4, .slice A0_5 l0_5.length c0_5, .slice (some ad169) l0_6.length c0_6] 26 (0, 0))) := ⟨h0_⟩;have n1_ : Aside0 (w19.heap[gb160]? = some (.cells #[.int .i64 a1_0, .int .i64 a1_1, .int .i64 a1_2, .int .i64 a1_3, .slice A1_4 l1_4.length c1_4, .slice A1_5 l1_5.length c1_5, .slice (some ad170) l1_6.length c1_6] 26 (0, 0))) := ⟨h1_⟩;have n2_ : Aside0 (w19.heap[gb161]? = some (.cells #[.int .i64 0, .int .i64 0, .int .i64 0, .int .i64 0, .slice none 0 0, .slice none 0 0, .slice none 0 0] 26 (0, 0))) := ⟨h2_⟩;have n3_ : Aside0 (Below w.heap.size w w19) := ⟨h3_⟩;clear BK159;clear BK160;clear BK161;clear HB;clear h0_ h1_ h2_ h3_;have BK159 := n0_;have BK160 := n1_;have BK161 := n2_;have HB := n3_;clear n0_ n1_ n2_ n3_;have hHeld := hS_;refine norm_ (a' := ?_) ?_ ?_
               rotate_left
               ·simp only [putAll, Act.put, List.setIfInBounds_toArray, List.set_cons_zero, List.set_cons_succ]
                rfl
               refine two_ (i := 24) (j := 45) (Ni := some 31) (Nj := some 5) #[true, true, true, true, true, true, true, true, true, true, true, true, true, true, true, true, true, true, true, true, true, true, true, true, true, true, true, true, true, true, true, true, true, false, true, true, true, true, true, true, true, true, false, false, false, false, false] #[true, true, true, true, true, true, true, true, true, true, true, true, true, true, true, true, true, true, true, true, true, true, true, true, false, true, true, true, true, true, true, true, true, false, true, true, true, true, true, true, true, true, false, false, false, true, false] rfl rfl rfl rfl (two_of HT_.out (by kernel_rfl)) (by decide) (by decide) (fun K hK => ?_) (fun K hK => ?_)
               ·skip
                refine goes_ Try.func87 (by kernel_rfl) rfl #[.slice A0_4 l0_4.length c0_4, .slice A1_4 l1_4.length c1_4] (by rfl) rfl rfl Z5x16 ?_
                with_reducible refine (spec_l3Sum.calls k _ _ l0_4 _ _ l1_4 t166 _ ?side1 ?side2 ?side3 ?side4 A7.out).mono ?_
                (case side1 => repeat (first | exact (Kd.C_below HR0_4.out HB.out) | (with_reducible refine Kd.C_alloc ?_ _) | (with_reducible refine Kd.C_drewN ?_ _) | (with_reducible refine Kd.C_drew ?_)))
                (case side2 => exact HC0_4.out)
                (case side3 => repeat (first | exact (Kd.C_below HR1_4.out HB.out) | (with_reducible refine Kd.C_alloc ?_ _) | (with_reducible refine Kd.C_drewN ?_ _) | (with_reducible refine Kd.C_drew ?_)))
                (case side4 => exact HC1_4.out)
                rintro e w20 ⟨v167, rfl, ho0, hb⟩
                refine ⟨_, rfl, ?_⟩;have n0_ := Aside0.mk (Kd.R_lower (Kd.R_newM (M := fun k_ => (w.heap.size ≤ k_)) ho0 (below_size Z5x0) (fun k_ h_ => h_)) (below_size Z5x0));have n1_ := Aside0.mk (blk_below (g := gb159) (o := .cells #[.int .i64 a0_0, .int .i64 a0_1, .int .i64 a0_2, .int .i64 a0_3, .slice A0_4 l0_4.length c0_4, .slice A0_5 l0_5.length c0_5, .slice (some ad169) l0_6.length c0_6] 26 (0, 0)) Z5x2 hb);have n2_ := Aside0.mk (blk_below (g := gb160) (o := .cells #[.int .i64 a1_0, .int .i64 a1_1, .int .i64 a1_2, .int .i64 a1_3, .slice A1_4 l1_4.length c1_4, .slice A1_5 l1_5.length c1_5, .slice (some ad170) l1_6.length c1_6] 26 (0, 0)) Z5x3 hb);have n3_ := Aside0.mk (blk_below (g := gb161) (o := .cells #[.int .i64 0, .int .i64 0, .int .i64 0, .int .i64 0, .slice none 0 0, .slice none 0 0, .slice none 0 0] 26 (0, 0)) Z5x4 hb);have n4_ := Aside0.mk (below_step Z5x0 hb);clear BK159;clear BK160;clear BK161;clear HB;have HO168 := n0_;have BK159 := n1_;have BK160 := n2_;have BK161 := n3_;have HB := n4_;clear n0_ n1_ n2_ n3_ n4_
                (try clear hb)
                (try clear hb2)
                (try clear hk)
                (try clear hi)
                (try clear ho0)
                refine hK.out _ _ (Z5q BK159.out BK160.out ((HB.out.cell (World.block_lt_of_cell? w _ hw169_0)).trans hw169_0) ((HB.out.cell (World.block_lt_of_cell? w _ hw170_0)).trans hw170_0) ((HB.out.cell (World.block_lt_of_cell? w _ hw174_0)).trans hw174_0) ((HB.out.cell (World.block_lt_of_cell? w _ hw175_0)).trans hw175_0)) (fun hHeld => ?_);clear hK K;refine norm_ (a' := ?_) ?_ ?_
                rotate_left
                ·show Act.put _ (some 31) _ = _
                 simp only [Act.put, List.setIfInBounds_toArray, List.set_cons_zero, List.set_cons_succ, i64_w, i32_w]
                 rfl
                exact norm_ Z5x5 (hJ4_9_14_19_24 (v167) _ ⟨hHeld, Z5x21, Z5x2, Z5x3, Z5x4, Z5x0⟩)
               ·skip
                refine box_step ?hg (N := 5) ?hd (cs := #[.int .i64 0, .int .i64 0, .int .i64 0, .int .i64 0, .slice none 0 0, .slice none 0 0, .slice none 0 0]) (t := 26) ?hr ?_; (case hd => rfl); (case hg => rfl); (case hr => first | (go_simp; done) | (go_simp; rfl));intro gb182 hg w20 hbox hb;have n0_ := Aside0.mk (blk_below (g := gb159) (o := .cells #[.int .i64 a0_0, .int .i64 a0_1, .int .i64 a0_2, .int .i64 a0_3, .slice A0_4 l0_4.length c0_4, .slice A0_5 l0_5.length c0_5, .slice (some ad169) l0_6.length c0_6] 26 (0, 0)) Z5x2 hb);have n1_ := Aside0.mk (blk_below (g := gb160) (o := .cells #[.int .i64 a1_0, .int .i64 a1_1, .int .i64 a1_2, .int .i64 a1_3, .slice A1_4 l1_4.length c1_4, .slice A1_5 l1_5.length c1_5, .slice (some ad170) l1_6.length c1_6] 26 (0, 0)) Z5x3 hb);have n2_ := Aside0.mk (blk_below (g := gb161) (o := .cells #[.int .i64 0, .int .i64 0, .int .i64 0, .int .i64 0, .slice none 0 0, .slice none 0 0, .slice none 0 0] 26 (0, 0)) Z5x4 hb);have n3_ := Aside0.mk (below_step Z5x0 hb);have n4_ := Aside0.mk (hbox);have n5_ := Aside0.mk ((Z5x20 : w.heap.size ≤ gb182));have n6_ := Aside0.mk ((Z5x20 : w.heap.size ≤ gb182));have n7_ := Aside0.mk ((Z5x12 : gb159 ≠ gb182));have n8_ := Aside0.mk ((Z5x13 : gb182 ≠ gb159));have n9_ := Aside0.mk ((Z5x14 : gb160 ≠ gb182));have n10_ := Aside0.mk ((Z5x15 : gb182 ≠ gb160));have n11_ := Aside0.mk ((Z5x17 : gb161 ≠ gb182));have n12_ := Aside0.mk ((Z5x18 : gb182 ≠ gb161));clear BK159;clear BK160;clear BK161;clear HB;have BK159 := n0_;have BK160 := n1_;have BK161 := n2_;have HB := n3_;have BK182 := n4_;have GW182 := n5_;have GE182 := n6_;have NB159_182 := n7_;have NB182_159 := n8_;have NB160_182 := n9_;have NB182_160 := n10_;have NB161_182 := n11_;have NB182_161 := n12_;clear n0_ n1_ n2_ n3_ n4_ n5_ n6_ n7_ n8_ n9_ n10_ n11_ n12_;clear hb hbox hg;refine hK.out _ _ (Z5q BK159.out BK160.out ((HB.out.cell (World.block_lt_of_cell? w _ hw169_0)).trans hw169_0) ((HB.out.cell (World.block_lt_of_cell? w _ hw170_0)).trans hw170_0) ((HB.out.cell (World.block_lt_of_cell? w _ hw174_0)).trans hw174_0) ((HB.out.cell (World.block_lt_of_cell? w _ hw175_0)).trans hw175_0)) (fun hHeld => ?_);clear hK K;refine norm_ (a' := ?_) ?_ ?_
                rotate_left
                ·show Act.put _ (some 5) _ = _
                 simp only [Act.put, List.setIfInBounds_toArray, List.set_cons_zero, List.set_cons_succ, i64_w, i32_w]
                 rfl
                exact norm_ Z5x5 (hJ4_9_14_19_45 (gb182) _ ⟨hHeld, Z5x2, Z5x3, Z5x4, Z5x10, GW182.out, GE182.out, NB159_182.out, NB182_159.out, NB160_182.out, NB182_160.out, NB161_182.out, NB182_161.out, Z5x1⟩)
             ·skip
              rintro gb182 w20 ⟨hS_, h0_, h1_, h2_, h3_, h4_, h5_, h6_, h7_, h8_, h9_, h10_, h11_, h12_⟩
              have n0_ : Aside0 (w20.heap[gb159]? = some (.cells #[.int .i64 a0_0, .int .i64 a0_1, .int .i64 a0_2, .int .i64 a0_3, .slice A0_4 l0_4.length c0_4, .slice A0_5 l0_5.length c0_5, .slice (some ad169) l0_6.length c0_6] 26 (0, 0))) := ⟨h0_⟩;have n1_ : Aside0 (w20.heap[gb160]? = some (.cells #[.int .i64 a1_0, .int .i64 a1_1, .int .i64 a1_2, .int .i64 a1_3, .slice A1_4 l1_4.length c1_4, .slice A1_5 l1_5.length c1_5, .slice (some ad170) l1_6.length c1_6] 26 (0, 0))) := ⟨h1_⟩;have n2_ : Aside0 (w20.heap[gb161]? = some (.cells #[.int .i64 0, .int .i64 0, .int .i64 0, .int .i64 0, .slice none 0 0, .slice none 0 0, .slice none 0 0] 26 (0, 0))) := ⟨h2_⟩;have n3_ : Aside0 (w20.heap[gb182]? = some (.cells #[.int .i64 0, .int .i64 0, .int .i64 0, .int .i64 0, .slice none 0 0, .slice none 0 0, .slice none 0 0] 26 (0, 0))) := ⟨h3_⟩;have n4_ : Aside0 (w.heap.size ≤ gb182) := ⟨h4_⟩;have n5_ : Aside0 (w.heap.size ≤ gb182) := ⟨h5_⟩;have n6_ : Aside0 (gb159 ≠ gb182) := ⟨h6_⟩;have n7_ : Aside0 (gb182 ≠ gb159) := ⟨h7_⟩;have n8_ : Aside0 (gb160 ≠ gb182) := ⟨h8_⟩;have n9_ : Aside0 (gb182 ≠ gb160) := ⟨h9_⟩;have n10_ : Aside0 (gb161 ≠ gb182) := ⟨h10_⟩;have n11_ : Aside0 (gb182 ≠ gb161) := ⟨h11_⟩;have n12_ : Aside0 (Below w.heap.size w w20) := ⟨h12_⟩;clear BK159;clear BK160;clear BK161;clear HB;clear h0_ h1_ h2_ h3_ h4_ h5_ h6_ h7_ h8_ h9_ h10_ h11_ h12_;have BK159 := n0_;have BK160 := n1_;have BK161 := n2_;have BK182 := n3_;have GW182 := n4_;have GE182 := n5_;have NB159_182 := n6_;have NB182_159 := n7_;have NB160_182 := n8_;have NB182_160 := n9_;have NB161_182 := n10_;have NB182_161 := n11_;have HB := n12_;clear n0_ n1_ n2_ n3_ n4_ n5_ n6_ n7_ n8_ n9_ n10_ n11_ n12_;have hHeld := hS_;refine norm_ (a' := ?_) ?_ ?_
              rotate_left
              ·simp only [putAll, Act.put, List.setIfInBounds_toArray, List.set_cons_zero, List.set_cons_succ]
               rfl
              refine one_ (i := 24) (N := some 31) #[true, true, true, true, true, true, true, true, true, true, true, true, true, true, true, true, true, true, true, true, true, true, true, true, true, true, true, true, true, true, true, true, true, false, true, true, true, true, true, true, true, true, false, false, false, true, false] rfl rfl (one_of HT_.out (by kernel_rfl)) (by decide) (fun K hK => ?_);refine goes_ Try.func87 (by kernel_rfl) rfl #[.slice A0_4 l0_4.length c0_4, .slice A1_4 l1_4.length c1_4] (by rfl) rfl rfl Z5x16 ?_
              with_reducible refine (spec_l3Sum.calls k _ _ l0_4 _ _ l1_4 t166 _ ?side1 ?side2 ?side3 ?side4 A7.out).mono ?_
              (case side1 => repeat (first | exact (Kd.C_below HR0_4.out HB.out) | (with_reducible refine Kd.C_alloc ?_ _) | (with_reducible refine Kd.C_drewN ?_ _) | (with_reducible refine Kd.C_drew ?_)))
              (case side2 => exact HC0_4.out)
              (case side3 => repeat (first | exact (Kd.C_below HR1_4.out HB.out) | (with_reducible refine Kd.C_alloc ?_ _) | (with_reducible refine Kd.C_drewN ?_ _) | (with_reducible refine Kd.C_drew ?_)))
              (case side4 => exact HC1_4.out)
              rintro e w21 ⟨v167, rfl, ho0, hb⟩
              refine ⟨_, rfl, ?_⟩;have n0_ := Aside0.mk (Kd.R_lower (Kd.R_newM (M := fun k_ => (w.heap.size ≤ k_)) ho0 (below_size Z5x1) (fun k_ h_ => h_)) (below_size Z5x1));have n1_ := Aside0.mk (blk_below (g := gb159) (o := .cells #[.int .i64 a0_0, .int .i64 a0_1, .int .i64 a0_2, .int .i64 a0_3, .slice A0_4 l0_4.length c0_4, .slice A0_5 l0_5.length c0_5, .slice (some ad169) l0_6.length c0_6] 26 (0, 0)) Z5x2 hb);have n2_ := Aside0.mk (blk_below (g := gb160) (o := .cells #[.int .i64 a1_0, .int .i64 a1_1, .int .i64 a1_2, .int .i64 a1_3, .slice A1_4 l1_4.length c1_4, .slice A1_5 l1_5.length c1_5, .slice (some ad170) l1_6.length c1_6] 26 (0, 0)) Z5x3 hb);have n3_ := Aside0.mk (blk_below (g := gb161) (o := .cells #[.int .i64 0, .int .i64 0, .int .i64 0, .int .i64 0, .slice none 0 0, .slice none 0 0, .slice none 0 0] 26 (0, 0)) Z5x4 hb);have n4_ := Aside0.mk (blk_below (g := gb182) (o := .cells #[.int .i64 0, .int .i64 0, .int .i64 0, .int .i64 0, .slice none 0 0, .slice none 0 0, .slice none 0 0] 26 (0, 0)) Z5x10 hb);have n5_ := Aside0.mk (below_step Z5x1 hb);clear BK159;clear BK160;clear BK161;clear BK182;clear HB;have HO168 := n0_;have BK159 := n1_;have BK160 := n2_;have BK161 := n3_;have BK182 := n4_;have HB := n5_;clear n0_ n1_ n2_ n3_ n4_ n5_
              (try clear hb)
              (try clear hb2)
              (try clear hk)
              (try clear hi)
              (try clear ho0)
              refine hK.out _ _ (Z5q BK159.out BK160.out ((HB.out.cell (World.block_lt_of_cell? w _ hw169_0)).trans hw169_0) ((HB.out.cell (World.block_lt_of_cell? w _ hw170_0)).trans hw170_0) ((HB.out.cell (World.block_lt_of_cell? w _ hw174_0)).trans hw174_0) ((HB.out.cell (World.block_lt_of_cell? w _ hw175_0)).trans hw175_0)) (fun hHeld => ?_);clear hK K;refine norm_ (a' := ?_) ?_ ?_
              rotate_left
              ·show Act.put _ (some 31) _ = _
               simp only [Act.put, List.setIfInBounds_toArray, List.set_cons_zero, List.set_cons_succ, i64_w, i32_w]
               rfl
              exact norm_ Z5x5 (hJ4_9_14_19_24_45 (v167, gb182) _ ⟨hHeld, Z5x21, Z5x2, Z5x3, Z5x4, Z5x10, GW182.out, GE182.out, NB159_182.out, NB182_159.out, NB160_182.out, NB182_160.out, NB161_182.out, NB182_161.out, Z5x1⟩)
            ·skip
             rintro v167 w20 ⟨hS_, h0_, h1_, h2_, h3_, h4_⟩
             have n0_ : Aside0 (Kd.R (Kd.int .i64) 3 w20 w.heap.size (fun k_ => (w.heap.size ≤ k_)) v167 t166) := ⟨h0_⟩;have n1_ : Aside0 (w20.heap[gb159]? = some (.cells #[.int .i64 a0_0, .int .i64 a0_1, .int .i64 a0_2, .int .i64 a0_3, .slice A0_4 l0_4.length c0_4, .slice A0_5 l0_5.length c0_5, .slice (some ad169) l0_6.length c0_6] 26 (0, 0))) := ⟨h1_⟩;have n2_ : Aside0 (w20.heap[gb160]? = some (.cells #[.int .i64 a1_0, .int .i64 a1_1, .int .i64 a1_2, .int .i64 a1_3, .slice A1_4 l1_4.length c1_4, .slice A1_5 l1_5.length c1_5, .slice (some ad170) l1_6.length c1_6] 26 (0, 0))) := ⟨h2_⟩;have n3_ : Aside0 (w20.heap[gb161]? = some (.cells #[.int .i64 0, .int .i64 0, .int .i64 0, .int .i64 0, .slice none 0 0, .slice none 0 0, .slice none 0 0] 26 (0, 0))) := ⟨h3_⟩;have n4_ : Aside0 (Below w.heap.size w w20) := ⟨h4_⟩;clear BK159;clear BK160;clear BK161;clear HB;clear h0_ h1_ h2_ h3_ h4_;have HO168 := n0_;have BK159 := n1_;have BK160 := n2_;have BK161 := n3_;have HB := n4_;clear n0_ n1_ n2_ n3_ n4_;have hHeld := hS_;refine norm_ (a' := ?_) ?_ ?_
             rotate_left
             ·simp only [putAll, Act.put, List.setIfInBounds_toArray, List.set_cons_zero, List.set_cons_succ]
              rfl
             refine two_ (i := 33) (j := 45) (Ni := some 40) (Nj := some 5) #[true, true, true, true, true, true, true, true, true, true, true, true, true, true, true, true, true, true, true, true, true, true, true, true, true, true, true, true, true, true, true, true, true, true, true, true, true, true, true, true, true, true, false, false, false, false, false] #[true, true, true, true, true, true, true, true, true, true, true, true, true, true, true, true, true, true, true, true, true, true, true, true, true, true, true, true, true, true, true, true, true, false, true, true, true, true, true, true, true, true, false, false, false, true, false] rfl rfl rfl rfl (two_of HT_.out (by kernel_rfl)) (by decide) (by decide) (fun K hK => ?_) (fun K hK => ?_)
             ·skip
              refine goes_ Try.func87 (by kernel_rfl) rfl #[.slice A169_0 (rd_L1 l0_6 0).length c169_0, .slice A170_0 (rd_L1 l1_6 0).length c170_0] (by rfl) rfl rfl Z5x16 ?_
              with_reducible refine (spec_l3Sum.calls k _ _ (rd_L1 l0_6 0) _ _ (rd_L1 l1_6 0) t171 _ ?side1 ?side2 ?side3 ?side4 A10.out).mono ?_
              (case side1 => repeat (first | exact (Kd.C_below HR169_0.out HB.out) | (with_reducible refine Kd.C_alloc ?_ _) | (with_reducible refine Kd.C_drewN ?_ _) | (with_reducible refine Kd.C_drew ?_)))
              (case side2 => exact HC169_0.out)
              (case side3 => repeat (first | exact (Kd.C_below HR170_0.out HB.out) | (with_reducible refine Kd.C_alloc ?_ _) | (with_reducible refine Kd.C_drewN ?_ _) | (with_reducible refine Kd.C_drew ?_)))
              (case side4 => exact HC170_0.out)
              rintro e w21 ⟨v172, rfl, ho0, hb⟩
              refine ⟨_, rfl, ?_⟩;have n0_ := Aside0.mk (Kd.R_elder' Z5x11 (Kd.R_base ho0) hb);have n1_ := Aside0.mk (Kd.R_lower (Kd.R_new' (Kd.R_newM (M := fun k_ => (w.heap.size ≤ k_)) ho0 (below_size Z5x0) (fun k_ h_ => h_)) (Kd.R_lt Z5x11)) (below_size Z5x0));have n2_ := Aside0.mk (blk_below (g := gb159) (o := .cells #[.int .i64 a0_0, .int .i64 a0_1, .int .i64 a0_2, .int .i64 a0_3, .slice A0_4 l0_4.length c0_4, .slice A0_5 l0_5.length c0_5, .slice (some ad169) l0_6.length c0_6] 26 (0, 0)) Z5x2 hb);have n3_ := Aside0.mk (blk_below (g := gb160) (o := .cells #[.int .i64 a1_0, .int .i64 a1_1, .int .i64 a1_2, .int .i64 a1_3, .slice A1_4 l1_4.length c1_4, .slice A1_5 l1_5.length c1_5, .slice (some ad170) l1_6.length c1_6] 26 (0, 0)) Z5x3 hb);have n4_ := Aside0.mk (blk_below (g := gb161) (o := .cells #[.int .i64 0, .int .i64 0, .int .i64 0, .int .i64 0, .slice none 0 0, .slice none 0 0, .slice none 0 0] 26 (0, 0)) Z5x4 hb);have n5_ := Aside0.mk (below_step Z5x0 hb);clear HO168;clear BK159;clear BK160;clear BK161;clear HB;have HO168 := n0_;have HO173 := n1_;have BK159 := n2_;have BK160 := n3_;have BK161 := n4_;have HB := n5_;clear n0_ n1_ n2_ n3_ n4_ n5_
              (try clear hb)
              (try clear hb2)
              (try clear hk)
              (try clear hi)
              (try clear ho0)
              refine hK.out _ _ (Z5q BK159.out BK160.out ((HB.out.cell (World.block_lt_of_cell? w _ hw169_0)).trans hw169_0) ((HB.out.cell (World.block_lt_of_cell? w _ hw170_0)).trans hw170_0) ((HB.out.cell (World.block_lt_of_cell? w _ hw174_0)).trans hw174_0) ((HB.out.cell (World.block_lt_of_cell? w _ hw175_0)).trans hw175_0)) (fun hHeld => ?_);clear hK K;refine norm_ (a' := ?_) ?_ ?_
              rotate_left
              ·show Act.put _ (some 40) _ = _
               simp only [Act.put, List.setIfInBounds_toArray, List.set_cons_zero, List.set_cons_succ, i64_w, i32_w]
               rfl
              exact norm_ Z5x5 (hJ4_9_14_19_24_33 (v167, v172) _ ⟨hHeld, Z5x11, (by (with_reducible repeat (first | apply Kd.R_alloc | apply Kd.R_drewN | apply Kd.R_drew)); exact Kd.R_mono HO173.out (fun _ hk => ⟨hk.1.1, hk.2⟩)), Z5x2, Z5x3, Z5x4, Z5x0⟩)
             ·skip
              refine box_step ?hg (N := 5) ?hd (cs := #[.int .i64 0, .int .i64 0, .int .i64 0, .int .i64 0, .slice none 0 0, .slice none 0 0, .slice none 0 0]) (t := 26) ?hr ?_; (case hd => rfl); (case hg => rfl); (case hr => first | (go_simp; done) | (go_simp; rfl));intro gb182 hg w21 hbox hb;have n0_ := Aside0.mk (Kd.R_below Z5x11 hb);have n1_ := Aside0.mk (blk_below (g := gb159) (o := .cells #[.int .i64 a0_0, .int .i64 a0_1, .int .i64 a0_2, .int .i64 a0_3, .slice A0_4 l0_4.length c0_4, .slice A0_5 l0_5.length c0_5, .slice (some ad169) l0_6.length c0_6] 26 (0, 0)) Z5x2 hb);have n2_ := Aside0.mk (blk_below (g := gb160) (o := .cells #[.int .i64 a1_0, .int .i64 a1_1, .int .i64 a1_2, .int .i64 a1_3, .slice A1_4 l1_4.length c1_4, .slice A1_5 l1_5.length c1_5, .slice (some ad170) l1_6.length c1_6] 26 (0, 0)) Z5x3 hb);have n3_ := Aside0.mk (blk_below (g := gb161) (o := .cells #[.int .i64 0, .int .i64 0, .int .i64 0, .int .i64 0, .slice none 0 0, .slice none 0 0, .slice none 0 0] 26 (0, 0)) Z5x4 hb);have n4_ := Aside0.mk (below_step Z5x0 hb);have n5_ := Aside0.mk (hbox);have n6_ := Aside0.mk ((Z5x20 : w.heap.size ≤ gb182));have n7_ := Aside0.mk ((Z5x20 : w.heap.size ≤ gb182));have n8_ := Aside0.mk ((Z5x12 : gb159 ≠ gb182));have n9_ := Aside0.mk ((Z5x13 : gb182 ≠ gb159));have n10_ := Aside0.mk ((Z5x14 : gb160 ≠ gb182));have n11_ := Aside0.mk ((Z5x15 : gb182 ≠ gb160));have n12_ := Aside0.mk ((Z5x17 : gb161 ≠ gb182));have n13_ := Aside0.mk ((Z5x18 : gb182 ≠ gb161));clear HO168;clear BK159;clear BK160;clear BK161;clear HB;have HO168 := n0_;have BK159 := n1_;have BK160 := n2_;have BK161 := n3_;have HB := n4_;have BK182 := n5_;have GW182 := n6_;have GE182 := n7_;have NB159_182 := n8_;have NB182_159 := n9_;have NB160_182 := n10_;have NB182_160 := n11_;have NB161_182 := n12_;have NB182_161 := n13_;clear n0_ n1_ n2_ n3_ n4_ n5_ n6_ n7_ n8_ n9_ n10_ n11_ n12_ n13_;clear hb hbox hg;refine hK.out _ _ (Z5q BK159.out BK160.out ((HB.out.cell (World.block_lt_of_cell? w _ hw169_0)).trans hw169_0) ((HB.out.cell (World.block_lt_of_cell? w _ hw170_0)).trans hw170_0) ((HB.out.cell (World.block_lt_of_cell? w _ hw174_0)).trans hw174_0) ((HB.out.cell (World.block_lt_of_cell? w _ hw175_0)).trans hw175_0)) (fun hHeld => ?_);clear hK K;refine norm_ (a' := ?_) ?_ ?_
              rotate_left
              ·show Act.put _ (some 5) _ = _
               simp only [Act.put, List.setIfInBounds_toArray, List.set_cons_zero, List.set_cons_succ, i64_w, i32_w]
               rfl
              exact norm_ Z5x5 (hJ4_9_14_19_24_45 (v167, gb182) _ ⟨hHeld, Z5x11, Z5x2, Z5x3, Z5x4, Z5x10, GW182.out, GE182.out, NB159_182.out, NB182_159.out, NB160_182.out, NB182_160.out, NB161_182.out, NB182_161.out, Z5x1⟩)
           ·skip
            rintro ⟨v167, gb182⟩ w21 ⟨hS_, h0_, h1_, h2_, h3_, h4_, h5_, h6_, h7_, h8_, h9_, h10_, h11_, h12_, h13_⟩
            have n0_ : Aside0 (Kd.R (Kd.int .i64) 3 w21 w.heap.size (fun k_ => (w.heap.size ≤ k_)) v167 t166) := ⟨h0_⟩;have n1_ : Aside0 (w21.heap[gb159]? = some (.cells #[.int .i64 a0_0, .int .i64 a0_1, .int .i64 a0_2, .int .i64 a0_3, .slice A0_4 l0_4.length c0_4, .slice A0_5 l0_5.length c0_5, .slice (some ad169) l0_6.length c0_6] 26 (0, 0))) := ⟨h1_⟩;have n2_ : Aside0 (w21.heap[gb160]? = some (.cells #[.int .i64 a1_0, .int .i64 a1_1, .int .i64 a1_2, .int .i64 a1_3, .slice A1_4 l1_4.length c1_4, .slice A1_5 l1_5.length c1_5, .slice (some ad170) l1_6.length c1_6] 26 (0, 0))) := ⟨h2_⟩;have n3_ : Aside0 (w21.heap[gb161]? = some (.cells #[.int .i64 0, .int .i64 0, .int .i64 0, .int .i64 0, .slice none 0 0, .slice none 0 0, .slice none 0 0] 26 (0, 0))) := ⟨h3_⟩;have n4_ : Aside0 (w21.heap[gb182]? = some (.cells #[.int .i64 0, .int .i64 0, .int .i64 0, .int .i64 0, .slice none 0 0, .slice none 0 0, .slice none 0 0] 26 (0, 0))) := ⟨h4_⟩;have n5_ : Aside0 (w.heap.size ≤ gb182) := ⟨h5_⟩;have n6_ : Aside0 (w.heap.size ≤ gb182) := ⟨h6_⟩;have n7_ : Aside0 (gb159 ≠ gb182) := ⟨h7_⟩;have n8_ : Aside0 (gb182 ≠ gb159) := ⟨h8_⟩;have n9_ : Aside0 (gb160 ≠ gb182) := ⟨h9_⟩;have n10_ : Aside0 (gb182 ≠ gb160) := ⟨h10_⟩;have n11_ : Aside0 (gb161 ≠ gb182) := ⟨h11_⟩;have n12_ : Aside0 (gb182 ≠ gb161) := ⟨h12_⟩;have n13_ : Aside0 (Below w.heap.size w w21) := ⟨h13_⟩;clear BK159;clear BK160;clear BK161;clear HB;clear h0_ h1_ h2_ h3_ h4_ h5_ h6_ h7_ h8_ h9_ h10_ h11_ h12_ h13_;have HO168 := n0_;have BK159 := n1_;have BK160 := n2_;have BK161 := n3_;have BK182 := n4_;have GW182 := n5_;have GE182 := n6_;have NB159_182 := n7_;have NB182_159 := n8_;have NB160_182 := n9_;have NB182_160 := n10_;have NB161_182 := n11_;have NB182_161 := n12_;have HB := n13_;clear n0_ n1_ n2_ n3_ n4_ n5_ n6_ n7_ n8_ n9_ n10_ n11_ n12_ n13_;have hHeld := hS_;refine norm_ (a' := ?_) ?_ ?_
            rotate_left
            ·simp only [putAll, Act.put, List.setIfInBounds_toArray, List.set_cons_zero, List.set_cons_succ]
             rfl
            refine one_ (i := 33) (N := some 40) #[true, true, true, true, true, true, true, true, true, true, true, true, true, true, true, true, true, true, true, true, true, true, true, true, true, true, true, true, true, true, true, true, true, true, true, true, true, true, true, true, true, true, false, false, false, true, false] rfl rfl (one_of HT_.out (by kernel_rfl)) (by decide) (fun K hK => ?_);refine goes_ Try.func87 (by kernel_rfl) rfl #[.slice A169_0 (rd_L1 l0_6 0).length c169_0, .slice A170_0 (rd_L1 l1_6 0).length c170_0] (by rfl) rfl rfl Z5x16 ?_
            with_reducible refine (spec_l3Sum.calls k _ _ (rd_L1 l0_6 0) _ _ (rd_L1 l1_6 0) t171 _ ?side1 ?side2 ?side3 ?side4 A10.out).mono ?_
            (case side1 => repeat (first | exact (Kd.C_below HR169_0.out HB.out) | (with_reducible refine Kd.C_alloc ?_ _) | (with_reducible refine Kd.C_drewN ?_ _) | (with_reducible refine Kd.C_drew ?_)))
            (case side2 => exact HC169_0.out)
            (case side3 => repeat (first | exact (Kd.C_below HR170_0.out HB.out) | (with_reducible refine Kd.C_alloc ?_ _) | (with_reducible refine Kd.C_drewN ?_ _) | (with_reducible refine Kd.C_drew ?_)))
            (case side4 => exact HC170_0.out)
            rintro e w22 ⟨v172, rfl, ho0, hb⟩
            refine ⟨_, rfl, ?_⟩;have n0_ := Aside0.mk (Kd.R_elder' Z5x11 (Kd.R_base ho0) hb);have n1_ := Aside0.mk (Kd.R_lower (Kd.R_new' (Kd.R_newM (M := fun k_ => (w.heap.size ≤ k_)) ho0 (below_size Z5x1) (fun k_ h_ => h_)) (Kd.R_lt Z5x11)) (below_size Z5x1));have n2_ := Aside0.mk (blk_below (g := gb159) (o := .cells #[.int .i64 a0_0, .int .i64 a0_1, .int .i64 a0_2, .int .i64 a0_3, .slice A0_4 l0_4.length c0_4, .slice A0_5 l0_5.length c0_5, .slice (some ad169) l0_6.length c0_6] 26 (0, 0)) Z5x2 hb);have n3_ := Aside0.mk (blk_below (g := gb160) (o := .cells #[.int .i64 a1_0, .int .i64 a1_1, .int .i64 a1_2, .int .i64 a1_3, .slice A1_4 l1_4.length c1_4, .slice A1_5 l1_5.length c1_5, .slice (some ad170) l1_6.length c1_6] 26 (0, 0)) Z5x3 hb);have n4_ := Aside0.mk (blk_below (g := gb161) (o := .cells #[.int .i64 0, .int .i64 0, .int .i64 0, .int .i64 0, .slice none 0 0, .slice none 0 0, .slice none 0 0] 26 (0, 0)) Z5x4 hb);have n5_ := Aside0.mk (blk_below (g := gb182) (o := .cells #[.int .i64 0, .int .i64 0, .int .i64 0, .int .i64 0, .slice none 0 0, .slice none 0 0, .slice none 0 0] 26 (0, 0)) Z5x10 hb);have n6_ := Aside0.mk (below_step Z5x1 hb);clear HO168;clear BK159;clear BK160;clear BK161;clear BK182;clear HB;have HO168 := n0_;have HO173 := n1_;have BK159 := n2_;have BK160 := n3_;have BK161 := n4_;have BK182 := n5_;have HB := n6_;clear n0_ n1_ n2_ n3_ n4_ n5_ n6_
            (try clear hb)
            (try clear hb2)
            (try clear hk)
            (try clear hi)
            (try clear ho0)
            refine hK.out _ _ (Z5q BK159.out BK160.out ((HB.out.cell (World.block_lt_of_cell? w _ hw169_0)).trans hw169_0) ((HB.out.cell (World.block_lt_of_cell? w _ hw170_0)).trans hw170_0) ((HB.out.cell (World.block_lt_of_cell? w _ hw174_0)).trans hw174_0) ((HB.out.cell (World.block_lt_of_cell? w _ hw175_0)).trans hw175_0)) (fun hHeld => ?_);clear hK K;refine norm_ (a' := ?_) ?_ ?_
            rotate_left
            ·show Act.put _ (some 40) _ = _
             simp only [Act.put, List.setIfInBounds_toArray, List.set_cons_zero, List.set_cons_succ, i64_w, i32_w]
             rfl
            exact norm_ Z5x5 (hJ4_9_14_19_24_33_45 (v167, v172, gb182) _ ⟨hHeld, Z5x11, (by (with_reducible repeat (first | apply Kd.R_alloc | apply Kd.R_drewN | apply Kd.R_drew)); exact Kd.R_mono HO173.out (fun _ hk => ⟨hk.1.1, hk.2⟩)), Z5x2, Z5x3, Z5x4, Z5x10, GW182.out, GE182.out, NB159_182.out, NB182_159.out, NB160_182.out, NB182_160.out, NB161_182.out, NB182_161.out, Z5x1⟩)
          ·skip
           rintro ⟨v167, v172⟩ w21 ⟨hS_, h0_, h1_, h2_, h3_, h4_, h5_⟩
           have n0_ : Aside0 (Kd.R (Kd.int .i64) 3 w21 w.heap.size (fun k_ => (w.heap.size ≤ k_) ∧ some k_ ≠ (v172 : Value).ownBlock) v167 t166) := ⟨h0_⟩;have n1_ : Aside0 (Kd.R (Kd.int .i64) 3 w21 w.heap.size (fun k_ => (w.heap.size ≤ k_) ∧ some k_ ≠ (v167 : Value).ownBlock) v172 t171) := ⟨h1_⟩;have n2_ : Aside0 (w21.heap[gb159]? = some (.cells #[.int .i64 a0_0, .int .i64 a0_1, .int .i64 a0_2, .int .i64 a0_3, .slice A0_4 l0_4.length c0_4, .slice A0_5 l0_5.length c0_5, .slice (some ad169) l0_6.length c0_6] 26 (0, 0))) := ⟨h2_⟩;have n3_ : Aside0 (w21.heap[gb160]? = some (.cells #[.int .i64 a1_0, .int .i64 a1_1, .int .i64 a1_2, .int .i64 a1_3, .slice A1_4 l1_4.length c1_4, .slice A1_5 l1_5.length c1_5, .slice (some ad170) l1_6.length c1_6] 26 (0, 0))) := ⟨h3_⟩;have n4_ : Aside0 (w21.heap[gb161]? = some (.cells #[.int .i64 0, .int .i64 0, .int .i64 0, .int .i64 0, .slice none 0 0, .slice none 0 0, .slice none 0 0] 26 (0, 0))) := ⟨h4_⟩;have n5_ : Aside0 (Below w.heap.size w w21) := ⟨h5_⟩;clear BK159;clear BK160;clear BK161;clear HB;clear h0_ h1_ h2_ h3_ h4_ h5_;have HO168 := n0_;have HO173 := n1_;have BK159 := n2_;have BK160 := n3_;have BK161 := n4_;have HB := n5_;clear n0_ n1_ n2_ n3_ n4_ n5_;have hHeld := hS_;refine norm_ (a' := ?_) ?_ ?_
           rotate_left
           ·simp only [putAll, Act.put, List.setIfInBounds_toArray, List.set_cons_zero, List.set_cons_succ]
            rfl
           refine two_ (i := 42) (j := 45) (Ni := some 49) (Nj := some 5) #[true, true, true, true, true, true, true, true, true, true, true, true, true, true, true, true, true, true, true, true, true, true, true, true, true, true, true, true, true, true, true, true, true, true, true, true, true, true, true, true, true, true, true, false, false, false, false] #[true, true, true, true, true, true, true, true, true, true, true, true, true, true, true, true, true, true, true, true, true, true, true, true, true, true, true, true, true, true, true, true, true, true, true, true, true, true, true, true, true, true, false, false, false, true, false] rfl rfl rfl rfl (two_of HT_.out (by kernel_rfl)) (by decide) (by decide) (fun K hK => ?_) (fun K hK => ?_)
           ·skip
            refine goes_ Try.func87 (by kernel_rfl) rfl #[.slice A174_0 (rd_L1 l0_6 1).length c174_0, .slice A175_0 (rd_L1 l1_6 1).length c175_0] (by rfl) rfl rfl Z5x16 ?_
            with_reducible refine (spec_l3Sum.calls k _ _ (rd_L1 l0_6 1) _ _ (rd_L1 l1_6 1) t176 _ ?side1 ?side2 ?side3 ?side4 A13.out).mono ?_
            (case side1 => repeat (first | exact (Kd.C_below HR174_0.out HB.out) | (with_reducible refine Kd.C_alloc ?_ _) | (with_reducible refine Kd.C_drewN ?_ _) | (with_reducible refine Kd.C_drew ?_)))
            (case side2 => exact HC174_0.out)
            (case side3 => repeat (first | exact (Kd.C_below HR175_0.out HB.out) | (with_reducible refine Kd.C_alloc ?_ _) | (with_reducible refine Kd.C_drewN ?_ _) | (with_reducible refine Kd.C_drew ?_)))
            (case side4 => exact HC175_0.out)
            rintro e w22 ⟨v177, rfl, ho0, hb⟩
            refine ⟨_, rfl, ?_⟩;have n0_ := Aside0.mk (Kd.R_elder' Z5x11 (Kd.R_base ho0) hb);have n1_ := Aside0.mk (Kd.R_elder' Z5x19 (Kd.R_base ho0) hb);have n2_ := Aside0.mk (Kd.R_lower (Kd.R_new' (Kd.R_new' (Kd.R_newM (M := fun k_ => (w.heap.size ≤ k_)) ho0 (below_size Z5x0) (fun k_ h_ => h_)) (Kd.R_lt Z5x11)) (Kd.R_lt Z5x19)) (below_size Z5x0));have n3_ := Aside0.mk (blk_below (g := gb159) (o := .cells #[.int .i64 a0_0, .int .i64 a0_1, .int .i64 a0_2, .int .i64 a0_3, .slice A0_4 l0_4.length c0_4, .slice A0_5 l0_5.length c0_5, .slice (some ad169) l0_6.length c0_6] 26 (0, 0)) Z5x2 hb);have n4_ := Aside0.mk (blk_below (g := gb160) (o := .cells #[.int .i64 a1_0, .int .i64 a1_1, .int .i64 a1_2, .int .i64 a1_3, .slice A1_4 l1_4.length c1_4, .slice A1_5 l1_5.length c1_5, .slice (some ad170) l1_6.length c1_6] 26 (0, 0)) Z5x3 hb);have n5_ := Aside0.mk (blk_below (g := gb161) (o := .cells #[.int .i64 0, .int .i64 0, .int .i64 0, .int .i64 0, .slice none 0 0, .slice none 0 0, .slice none 0 0] 26 (0, 0)) Z5x4 hb);have n6_ := Aside0.mk (below_step Z5x0 hb);clear HO168;clear HO173;clear BK159;clear BK160;clear BK161;clear HB;have HO168 := n0_;have HO173 := n1_;have HO178 := n2_;have BK159 := n3_;have BK160 := n4_;have BK161 := n5_;have HB := n6_;clear n0_ n1_ n2_ n3_ n4_ n5_ n6_
            (try clear hb)
            (try clear hb2)
            (try clear hk)
            (try clear hi)
            (try clear ho0)
            refine hK.out _ _ (Z5q BK159.out BK160.out ((HB.out.cell (World.block_lt_of_cell? w _ hw169_0)).trans hw169_0) ((HB.out.cell (World.block_lt_of_cell? w _ hw170_0)).trans hw170_0) ((HB.out.cell (World.block_lt_of_cell? w _ hw174_0)).trans hw174_0) ((HB.out.cell (World.block_lt_of_cell? w _ hw175_0)).trans hw175_0)) (fun hHeld => ?_);clear hK K;refine norm_ (a' := ?_) ?_ ?_
            rotate_left
            ·show Act.put _ (some 49) _ = _
             simp only [Act.put, List.setIfInBounds_toArray, List.set_cons_zero, List.set_cons_succ, i64_w, i32_w]
             rfl
            exact norm_ Z5x5 (hJ4_9_14_19_24_33_42 (v167, v172, v177) _ ⟨hHeld, (by (with_reducible repeat (first | apply Kd.R_alloc | apply Kd.R_drewN | apply Kd.R_drew)); exact Kd.R_mono HO168.out (fun _ hk => ⟨hk.1.1, ⟨hk.1.2, hk.2⟩⟩)), (by (with_reducible repeat (first | apply Kd.R_alloc | apply Kd.R_drewN | apply Kd.R_drew)); exact Kd.R_mono HO173.out (fun _ hk => ⟨hk.1.1, ⟨hk.1.2, hk.2⟩⟩)), (by (with_reducible repeat (first | apply Kd.R_alloc | apply Kd.R_drewN | apply Kd.R_drew)); exact Kd.R_mono HO178.out (fun _ hk => ⟨hk.1.1.1, ⟨hk.1.2, hk.2⟩⟩)), Z5x2, Z5x3, Z5x4, Z5x0⟩)
           ·skip
            refine box_step ?hg (N := 5) ?hd (cs := #[.int .i64 0, .int .i64 0, .int .i64 0, .int .i64 0, .slice none 0 0, .slice none 0 0, .slice none 0 0]) (t := 26) ?hr ?_; (case hd => rfl); (case hg => rfl); (case hr => first | (go_simp; done) | (go_simp; rfl));intro gb182 hg w22 hbox hb;have n0_ := Aside0.mk (Kd.R_below Z5x11 hb);have n1_ := Aside0.mk (Kd.R_below Z5x19 hb);have n2_ := Aside0.mk (blk_below (g := gb159) (o := .cells #[.int .i64 a0_0, .int .i64 a0_1, .int .i64 a0_2, .int .i64 a0_3, .slice A0_4 l0_4.length c0_4, .slice A0_5 l0_5.length c0_5, .slice (some ad169) l0_6.length c0_6] 26 (0, 0)) Z5x2 hb);have n3_ := Aside0.mk (blk_below (g := gb160) (o := .cells #[.int .i64 a1_0, .int .i64 a1_1, .int .i64 a1_2, .int .i64 a1_3, .slice A1_4 l1_4.length c1_4, .slice A1_5 l1_5.length c1_5, .slice (some ad170) l1_6.length c1_6] 26 (0, 0)) Z5x3 hb);have n4_ := Aside0.mk (blk_below (g := gb161) (o := .cells #[.int .i64 0, .int .i64 0, .int .i64 0, .int .i64 0, .slice none 0 0, .slice none 0 0, .slice none 0 0] 26 (0, 0)) Z5x4 hb);have n5_ := Aside0.mk (below_step Z5x0 hb);have n6_ := Aside0.mk (hbox);have n7_ := Aside0.mk ((Z5x20 : w.heap.size ≤ gb182));have n8_ := Aside0.mk ((Z5x20 : w.heap.size ≤ gb182));have n9_ := Aside0.mk ((Z5x12 : gb159 ≠ gb182));have n10_ := Aside0.mk ((Z5x13 : gb182 ≠ gb159));have n11_ := Aside0.mk ((Z5x14 : gb160 ≠ gb182));have n12_ := Aside0.mk ((Z5x15 : gb182 ≠ gb160));have n13_ := Aside0.mk ((Z5x17 : gb161 ≠ gb182));have n14_ := Aside0.mk ((Z5x18 : gb182 ≠ gb161));clear HO168;clear HO173;clear BK159;clear BK160;clear BK161;clear HB;have HO168 := n0_;have HO173 := n1_;have BK159 := n2_;have BK160 := n3_;have BK161 := n4_;have HB := n5_;have BK182 := n6_;have GW182 := n7_;have GE182 := n8_;have NB159_182 := n9_;have NB182_159 := n10_;have NB160_182 := n11_;have NB182_160 := n12_;have NB161_182 := n13_;have NB182_161 := n14_;clear n0_ n1_ n2_ n3_ n4_ n5_ n6_ n7_ n8_ n9_ n10_ n11_ n12_ n13_ n14_;clear hb hbox hg;refine hK.out _ _ (Z5q BK159.out BK160.out ((HB.out.cell (World.block_lt_of_cell? w _ hw169_0)).trans hw169_0) ((HB.out.cell (World.block_lt_of_cell? w _ hw170_0)).trans hw170_0) ((HB.out.cell (World.block_lt_of_cell? w _ hw174_0)).trans hw174_0) ((HB.out.cell (World.block_lt_of_cell? w _ hw175_0)).trans hw175_0)) (fun hHeld => ?_);clear hK K;refine norm_ (a' := ?_) ?_ ?_
            rotate_left
            ·show Act.put _ (some 5) _ = _
             simp only [Act.put, List.setIfInBounds_toArray, List.set_cons_zero, List.set_cons_succ, i64_w, i32_w]
             rfl
            exact norm_ Z5x5 (hJ4_9_14_19_24_33_45 (v167, v172, gb182) _ ⟨hHeld, Z5x11, Z5x19, Z5x2, Z5x3, Z5x4, Z5x10, GW182.out, GE182.out, NB159_182.out, NB182_159.out, NB160_182.out, NB182_160.out, NB161_182.out, NB182_161.out, Z5x1⟩)
         ·skip
          rintro ⟨v167, v172, gb182⟩ w22 ⟨hS_, h0_, h1_, h2_, h3_, h4_, h5_, h6_, h7_, h8_, h9_, h10_, h11_, h12_, h13_, h14_⟩
          have n0_ : Aside0 (Kd.R (Kd.int .i64) 3 w22 w.heap.size (fun k_ => (w.heap.size ≤ k_) ∧ some k_ ≠ (v172 : Value).ownBlock) v167 t166) := ⟨h0_⟩;have n1_ : Aside0 (Kd.R (Kd.int .i64) 3 w22 w.heap.size (fun k_ => (w.heap.size ≤ k_) ∧ some k_ ≠ (v167 : Value).ownBlock) v172 t171) := ⟨h1_⟩;have n2_ : Aside0 (w22.heap[gb159]? = some (.cells #[.int .i64 a0_0, .int .i64 a0_1, .int .i64 a0_2, .int .i64 a0_3, .slice A0_4 l0_4.length c0_4, .slice A0_5 l0_5.length c0_5, .slice (some ad169) l0_6.length c0_6] 26 (0, 0))) := ⟨h2_⟩;have n3_ : Aside0 (w22.heap[gb160]? = some (.cells #[.int .i64 a1_0, .int .i64 a1_1, .int .i64 a1_2, .int .i64 a1_3, .slice A1_4 l1_4.length c1_4, .slice A1_5 l1_5.length c1_5, .slice (some ad170) l1_6.length c1_6] 26 (0, 0))) := ⟨h3_⟩;have n4_ : Aside0 (w22.heap[gb161]? = some (.cells #[.int .i64 0, .int .i64 0, .int .i64 0, .int .i64 0, .slice none 0 0, .slice none 0 0, .slice none 0 0] 26 (0, 0))) := ⟨h4_⟩;have n5_ : Aside0 (w22.heap[gb182]? = some (.cells #[.int .i64 0, .int .i64 0, .int .i64 0, .int .i64 0, .slice none 0 0, .slice none 0 0, .slice none 0 0] 26 (0, 0))) := ⟨h5_⟩;have n6_ : Aside0 (w.heap.size ≤ gb182) := ⟨h6_⟩;have n7_ : Aside0 (w.heap.size ≤ gb182) := ⟨h7_⟩;have n8_ : Aside0 (gb159 ≠ gb182) := ⟨h8_⟩;have n9_ : Aside0 (gb182 ≠ gb159) := ⟨h9_⟩;have n10_ : Aside0 (gb160 ≠ gb182) := ⟨h10_⟩;have n11_ : Aside0 (gb182 ≠ gb160) := ⟨h11_⟩;have n12_ : Aside0 (gb161 ≠ gb182) := ⟨h12_⟩;have n13_ : Aside0 (gb182 ≠ gb161) := ⟨h13_⟩;have n14_ : Aside0 (Below w.heap.size w w22) := ⟨h14_⟩;clear BK159;clear BK160;clear BK161;clear HB;clear h0_ h1_ h2_ h3_ h4_ h5_ h6_ h7_ h8_ h9_ h10_ h11_ h12_ h13_ h14_;have HO168 := n0_;have HO173 := n1_;have BK159 := n2_;have BK160 := n3_;have BK161 := n4_;have BK182 := n5_;have GW182 := n6_;have GE182 := n7_;have NB159_182 := n8_;have NB182_159 := n9_;have NB160_182 := n10_;have NB182_160 := n11_;have NB161_182 := n12_;have NB182_161 := n13_;have HB := n14_;clear n0_ n1_ n2_ n3_ n4_ n5_ n6_ n7_ n8_ n9_ n10_ n11_ n12_ n13_ n14_;have hHeld := hS_;refine norm_ (a' := ?_) ?_ ?_
          rotate_left
          ·simp only [putAll, Act.put, List.setIfInBounds_toArray, List.set_cons_zero, List.set_cons_succ]
           rfl
          refine one_ (i := 42) (N := some 49) #[true, true, true, true, true, true, true, true, true, true, true, true, true, true, true, true, true, true, true, true, true, true, true, true, true, true, true, true, true, true, true, true, true, true, true, true, true, true, true, true, true, true, true, false, false, true, false] rfl rfl (one_of HT_.out (by kernel_rfl)) (by decide) (fun K hK => ?_);refine goes_ Try.func87 (by kernel_rfl) rfl #[.slice A174_0 (rd_L1 l0_6 1).length c174_0, .slice A175_0 (rd_L1 l1_6 1).length c175_0] (by rfl) rfl rfl Z5x16 ?_
          with_reducible refine (spec_l3Sum.calls k _ _ (rd_L1 l0_6 1) _ _ (rd_L1 l1_6 1) t176 _ ?side1 ?side2 ?side3 ?side4 A13.out).mono ?_
          (case side1 => repeat (first | exact (Kd.C_below HR174_0.out HB.out) | (with_reducible refine Kd.C_alloc ?_ _) | (with_reducible refine Kd.C_drewN ?_ _) | (with_reducible refine Kd.C_drew ?_)))
          (case side2 => exact HC174_0.out)
          (case side3 => repeat (first | exact (Kd.C_below HR175_0.out HB.out) | (with_reducible refine Kd.C_alloc ?_ _) | (with_reducible refine Kd.C_drewN ?_ _) | (with_reducible refine Kd.C_drew ?_)))
          (case side4 => exact HC175_0.out)
          rintro e w23 ⟨v177, rfl, ho0, hb⟩
          refine ⟨_, rfl, ?_⟩;have n0_ := Aside0.mk (Kd.R_elder' Z5x11 (Kd.R_base ho0) hb);have n1_ := Aside0.mk (Kd.R_elder' Z5x19 (Kd.R_base ho0) hb);have n2_ := Aside0.mk (Kd.R_lower (Kd.R_new' (Kd.R_new' (Kd.R_newM (M := fun k_ => (w.heap.size ≤ k_)) ho0 (below_size Z5x1) (fun k_ h_ => h_)) (Kd.R_lt Z5x11)) (Kd.R_lt Z5x19)) (below_size Z5x1));have n3_ := Aside0.mk (blk_below (g := gb159) (o := .cells #[.int .i64 a0_0, .int .i64 a0_1, .int .i64 a0_2, .int .i64 a0_3, .slice A0_4 l0_4.length c0_4, .slice A0_5 l0_5.length c0_5, .slice (some ad169) l0_6.length c0_6] 26 (0, 0)) Z5x2 hb);have n4_ := Aside0.mk (blk_below (g := gb160) (o := .cells #[.int .i64 a1_0, .int .i64 a1_1, .int .i64 a1_2, .int .i64 a1_3, .slice A1_4 l1_4.length c1_4, .slice A1_5 l1_5.length c1_5, .slice (some ad170) l1_6.length c1_6] 26 (0, 0)) Z5x3 hb);have n5_ := Aside0.mk (blk_below (g := gb161) (o := .cells #[.int .i64 0, .int .i64 0, .int .i64 0, .int .i64 0, .slice none 0 0, .slice none 0 0, .slice none 0 0] 26 (0, 0)) Z5x4 hb);have n6_ := Aside0.mk (blk_below (g := gb182) (o := .cells #[.int .i64 0, .int .i64 0, .int .i64 0, .int .i64 0, .slice none 0 0, .slice none 0 0, .slice none 0 0] 26 (0, 0)) Z5x10 hb);have n7_ := Aside0.mk (below_step Z5x1 hb);clear HO168;clear HO173;clear BK159;clear BK160;clear BK161;clear BK182;clear HB;have HO168 := n0_;have HO173 := n1_;have HO178 := n2_;have BK159 := n3_;have BK160 := n4_;have BK161 := n5_;have BK182 := n6_;have HB := n7_;clear n0_ n1_ n2_ n3_ n4_ n5_ n6_ n7_
          (try clear hb)
          (try clear hb2)
          (try clear hk)
          (try clear hi)
          (try clear ho0)
          refine hK.out _ _ (Z5q BK159.out BK160.out ((HB.out.cell (World.block_lt_of_cell? w _ hw169_0)).trans hw169_0) ((HB.out.cell (World.block_lt_of_cell? w _ hw170_0)).trans hw170_0) ((HB.out.cell (World.block_lt_of_cell? w _ hw174_0)).trans hw174_0) ((HB.out.cell (World.block_lt_of_cell? w _ hw175_0)).trans hw175_0)) (fun hHeld => ?_);clear hK K;refine norm_ (a' := ?_) ?_ ?_
          rotate_left
          ·show Act.put _ (some 49) _ = _
           simp only [Act.put, List.setIfInBounds_toArray, List.set_cons_zero, List.set_cons_succ, i64_w, i32_w]
           rfl
          exact norm_ Z5x5 (hJ4_9_14_19_24_33_42_45 (v167, v172, v177, gb182) _ ⟨hHeld, (by (with_reducible repeat (first | apply Kd.R_alloc | apply Kd.R_drewN | apply Kd.R_drew)); exact Kd.R_mono HO168.out (fun _ hk => ⟨hk.1.1, ⟨hk.1.2, hk.2⟩⟩)), (by (with_reducible repeat (first | apply Kd.R_alloc | apply Kd.R_drewN | apply Kd.R_drew)); exact Kd.R_mono HO173.out (fun _ hk => ⟨hk.1.1, ⟨hk.1.2, hk.2⟩⟩)), (by (with_reducible repeat (first | apply Kd.R_alloc | apply Kd.R_drewN | apply Kd.R_drew)); exact Kd.R_mono HO178.out (fun _ hk => ⟨hk.1.1.1, ⟨hk.1.2, hk.2⟩⟩)), Z5x2, Z5x3, Z5x4, Z5x10, GW182.out, GE182.out, NB159_182.out, NB182_159.out, NB160_182.out, NB182_160.out, NB161_182.out, NB182_161.out, Z5x1⟩)
        ·skip
         rintro ⟨v167, v172, v177⟩ w22 ⟨hS_, h0_, h1_, h2_, h3_, h4_, h5_, h6_⟩
         have n0_ : Aside0 (Kd.R (Kd.int .i64) 3 w22 w.heap.size (fun k_ => (w.heap.size ≤ k_) ∧ some k_ ≠ (v172 : Value).ownBlock ∧ some k_ ≠ (v177 : Value).ownBlock) v167 t166) := ⟨h0_⟩;have n1_ : Aside0 (Kd.R (Kd.int .i64) 3 w22 w.heap.size (fun k_ => (w.heap.size ≤ k_) ∧ some k_ ≠ (v167 : Value).ownBlock ∧ some k_ ≠ (v177 : Value).ownBlock) v172 t171) := ⟨h1_⟩;have n2_ : Aside0 (Kd.R (Kd.int .i64) 3 w22 w.heap.size (fun k_ => (w.heap.size ≤ k_) ∧ some k_ ≠ (v167 : Value).ownBlock ∧ some k_ ≠ (v172 : Value).ownBlock) v177 t176) := ⟨h2_⟩;have n3_ : Aside0 (w22.heap[gb159]? = some (.cells #[.int .i64 a0_0, .int .i64 a0_1, .int .i64 a0_2, .int .i64 a0_3, .slice A0_4 l0_4.length c0_4, .slice A0_5 l0_5.length c0_5, .slice (some ad169) l0_6.length c0_6] 26 (0, 0))) := ⟨h3_⟩;have n4_ : Aside0 (w22.heap[gb160]? = some (.cells #[.int .i64 a1_0, .int .i64 a1_1, .int .i64 a1_2, .int .i64 a1_3, .slice A1_4 l1_4.length c1_4, .slice A1_5 l1_5.length c1_5, .slice (some ad170) l1_6.length c1_6] 26 (0, 0))) := ⟨h4_⟩;have n5_ : Aside0 (w22.heap[gb161]? = some (.cells #[.int .i64 0, .int .i64 0, .int .i64 0, .int .i64 0, .slice none 0 0, .slice none 0 0, .slice none 0 0] 26 (0, 0))) := ⟨h5_⟩;have n6_ : Aside0 (Below w.heap.size w w22) := ⟨h6_⟩;clear BK159;clear BK160;clear BK161;clear HB;clear h0_ h1_ h2_ h3_ h4_ h5_ h6_;have HO168 := n0_;have HO173 := n1_;have HO178 := n2_;have BK159 := n3_;have BK160 := n4_;have BK161 := n5_;have HB := n6_;clear n0_ n1_ n2_ n3_ n4_ n5_ n6_;have hHeld := hS_;refine norm_ (a' := ?_) ?_ ?_
         rotate_left
         ·simp only [putAll, Act.put, List.setIfInBounds_toArray, List.set_cons_zero, List.set_cons_succ]
          rfl
         refine two_ (i := 43) (j := 45) (Ni := some 50) (Nj := some 5) #[true, true, true, true, true, true, true, true, true, true, true, true, true, true, true, true, true, true, true, true, true, true, true, true, true, true, true, true, true, true, true, true, true, true, true, true, true, true, true, true, true, true, true, true, false, false, false] #[true, true, true, true, true, true, true, true, true, true, true, true, true, true, true, true, true, true, true, true, true, true, true, true, true, true, true, true, true, true, true, true, true, true, true, true, true, true, true, true, true, true, true, false, false, true, false] rfl rfl rfl rfl (two_of HT_.out (by kernel_rfl)) (by decide) (by decide) (fun K hK => ?_) (fun K hK => ?_)
         ·skip
          obtain ⟨Ao23, co23, eo23⟩ := Kd.R_slice HO173.out
          (first | subst eo23 | (injection eo23 with f1_ f2_ f3_; have f4_ := f1_.symm; have f5_ := f3_.symm; clear f1_ f2_ f3_; subst f4_; subst f5_))
          obtain ⟨Ao24, co24, eo24⟩ := Kd.R_slice HO178.out
          (first | subst eo24 | (injection eo24 with f1_ f2_ f3_; have f4_ := f1_.symm; have f5_ := f3_.symm; clear f1_ f2_ f3_; subst f4_; subst f5_))
          refine Kd.N_lit_step (Kd.slice 3 (Kd.int .i64)) _ 23 ?hg (N' := 50) ?hd (xs := ([t171, t176] : List (List Int))) (inner := [.slice Ao23 t171.length co23, .slice Ao24 t176.length co24]) (ok := (fun k_ => (w.heap.size ≤ k_) ∧ some k_ ≠ (v167 : Value).ownBlock ∧ k_ ≠ gb159 ∧ k_ ≠ gb160 ∧ k_ ≠ gb161)) (okp := (fun k_ => (w.heap.size ≤ k_) ∧ some k_ ≠ (v167 : Value).ownBlock ∧ k_ ≠ gb159 ∧ k_ ≠ gb160 ∧ k_ ≠ gb161)) ?hr ?hp (fun _ hk => hk) ((show ∀ k_, w22.heap.size ≤ k_ → (fun k_ => (w.heap.size ≤ k_) ∧ some k_ ≠ (v167 : Value).ownBlock ∧ k_ ≠ gb159 ∧ k_ ≠ gb160 ∧ k_ ≠ gb161) k_ from fun k_ hk => ⟨(Nat.le_trans (below_size Z5x0) hk), Kd.fresh' (Kd.R_lt Z5x11) k_ hk, Kd.freshB (g := gb159) (o := .cells #[.int .i64 a0_0, .int .i64 a0_1, .int .i64 a0_2, .int .i64 a0_3, .slice A0_4 l0_4.length c0_4, .slice A0_5 l0_5.length c0_5, .slice (some ad169) l0_6.length c0_6] 26 (0, 0)) Z5x2 k_ hk, Kd.freshB (g := gb160) (o := .cells #[.int .i64 a1_0, .int .i64 a1_1, .int .i64 a1_2, .int .i64 a1_3, .slice A1_4 l1_4.length c1_4, .slice A1_5 l1_5.length c1_5, .slice (some ad170) l1_6.length c1_6] 26 (0, 0)) Z5x3 k_ hk, Kd.freshB (g := gb161) (o := .cells #[.int .i64 0, .int .i64 0, .int .i64 0, .int .i64 0, .slice none 0 0, .slice none 0 0, .slice none 0 0] 26 (0, 0)) Z5x4 k_ hk⟩) _ (Nat.le_refl _)) (Below.refl _ _) (Nat.le_refl _) (by simp) ?_; (case hd => rfl); (case hg => rfl); (case hr => first | (go_simp; done) | (go_simp; rfl)); (case hp => exact (Reps.one (show Kd.FK (Kd.slice 3 (Kd.int .i64)) _ _ t171 [.slice Ao23 t171.length co23] from (Kd.FK_slice_mk (Kd.R_reads' (Kd.R_mono (ok' := (fun k_ => (w.heap.size ≤ k_) ∧ some k_ ≠ (v167 : Value).ownBlock ∧ k_ ≠ gb159 ∧ k_ ≠ gb160 ∧ k_ ≠ gb161)) (Kd.R_types (Kd.R_types (Kd.R_types (HO173.out) BK159.out (by decide)) BK160.out (by decide)) BK161.out (by decide)) (fun k_ hk => ⟨hk.1.1.1.1, ⟨hk.1.1.1.2.1, ⟨hk.1.1.2, ⟨hk.1.2, hk.2⟩⟩⟩⟩))).2.1 (Kd.R_F (Kd.R_mono (ok' := (fun k_ => (w.heap.size ≤ k_) ∧ some k_ ≠ (v167 : Value).ownBlock ∧ k_ ≠ gb159 ∧ k_ ≠ gb160 ∧ k_ ≠ gb161)) (Kd.R_types (Kd.R_types (Kd.R_types (HO173.out) BK159.out (by decide)) BK160.out (by decide)) BK161.out (by decide)) (fun k_ hk => ⟨hk.1.1.1.1, ⟨hk.1.1.1.2.1, ⟨hk.1.1.2, ⟨hk.1.2, hk.2⟩⟩⟩⟩))))) (Reps.one (show Kd.FK (Kd.slice 3 (Kd.int .i64)) _ _ t176 [.slice Ao24 t176.length co24] from (Kd.FK_slice_mk (Kd.R_reads' (Kd.R_mono (ok' := (fun k_ => (w.heap.size ≤ k_) ∧ some k_ ≠ (v167 : Value).ownBlock ∧ k_ ≠ gb159 ∧ k_ ≠ gb160 ∧ k_ ≠ gb161)) (Kd.R_types (Kd.R_types (Kd.R_types (HO178.out) BK159.out (by decide)) BK160.out (by decide)) BK161.out (by decide)) (fun k_ hk => ⟨hk.1.1.1.1, ⟨hk.1.1.1.2.1, ⟨hk.1.1.2, ⟨hk.1.2, hk.2⟩⟩⟩⟩))).2.1 (Kd.R_F (Kd.R_mono (ok' := (fun k_ => (w.heap.size ≤ k_) ∧ some k_ ≠ (v167 : Value).ownBlock ∧ k_ ≠ gb159 ∧ k_ ≠ gb160 ∧ k_ ≠ gb161)) (Kd.R_types (Kd.R_types (Kd.R_types (HO178.out) BK159.out (by decide)) BK160.out (by decide)) BK161.out (by decide)) (fun k_ hk => ⟨hk.1.1.1.1, ⟨hk.1.1.1.2.1, ⟨hk.1.1.2, ⟨hk.1.2, hk.2⟩⟩⟩⟩))))) (Reps.none _ _))));intro v180 w25 ho26 hb hg_ hnew_;clear hg_ hnew_
          (first | rw [← Ny179.out] at ho26 | (simp only [Int.reduceToNat] at ho26; rw [← Ny179.out] at ho26))
          have n0_ := Aside0.mk (Kd.R_below Z5x11 hb);have n1_ := Aside0.mk (Kd.N_lower ho26 (below_size Z5x0));have n2_ := Aside0.mk (blk_below (g := gb159) (o := .cells #[.int .i64 a0_0, .int .i64 a0_1, .int .i64 a0_2, .int .i64 a0_3, .slice A0_4 l0_4.length c0_4, .slice A0_5 l0_5.length c0_5, .slice (some ad169) l0_6.length c0_6] 26 (0, 0)) Z5x2 hb);have n3_ := Aside0.mk (blk_below (g := gb160) (o := .cells #[.int .i64 a1_0, .int .i64 a1_1, .int .i64 a1_2, .int .i64 a1_3, .slice A1_4 l1_4.length c1_4, .slice A1_5 l1_5.length c1_5, .slice (some ad170) l1_6.length c1_6] 26 (0, 0)) Z5x3 hb);have n4_ := Aside0.mk (blk_below (g := gb161) (o := .cells #[.int .i64 0, .int .i64 0, .int .i64 0, .int .i64 0, .slice none 0 0, .slice none 0 0, .slice none 0 0] 26 (0, 0)) Z5x4 hb);have n5_ := Aside0.mk (below_step Z5x0 hb);clear HO168;clear BK159;clear BK160;clear BK161;clear HB;clear HO173;clear HO178;have HO168 := n0_;have HO181 := n1_;have BK159 := n2_;have BK160 := n3_;have BK161 := n4_;have HB := n5_;clear n0_ n1_ n2_ n3_ n4_ n5_;clear hb ho26;obtain ⟨Ao27, co27, eo27⟩ := Kd.N_slice HO181.out
          (first | subst eo27 | (injection eo27 with f1_ f2_ f3_; have f4_ := f1_.symm; have f5_ := f3_.symm; clear f1_ f2_ f3_; subst f4_; subst f5_))
          obtain ⟨Ao28, co28, eo28⟩ := Kd.R_slice HO168.out
          (first | subst eo28 | (injection eo28 with f1_ f2_ f3_; have f4_ := f1_.symm; have f5_ := f3_.symm; clear f1_ f2_ f3_; subst f4_; subst f5_))
          refine hK.out _ _ (Z5q BK159.out BK160.out ((HB.out.cell (World.block_lt_of_cell? w _ hw169_0)).trans hw169_0) ((HB.out.cell (World.block_lt_of_cell? w _ hw170_0)).trans hw170_0) ((HB.out.cell (World.block_lt_of_cell? w _ hw174_0)).trans hw174_0) ((HB.out.cell (World.block_lt_of_cell? w _ hw175_0)).trans hw175_0)) (fun hHeld => ?_);clear hK K;refine norm_ (a' := ?_) ?_ ?_
          rotate_left
          ·show Act.put _ (some 50) _ = _
           simp only [Act.put, List.setIfInBounds_toArray, List.set_cons_zero, List.set_cons_succ, i64_w, i32_w]
           rfl
          refine pure_ (i := 44) (N := some 51) (v := ?_) (a' := ?_) #[true, true, true, true, true, true, true, true, true, true, true, true, true, true, true, true, true, true, true, true, true, true, true, true, true, true, true, true, true, true, true, true, true, true, true, true, true, true, true, true, true, true, true, true, true, false, false] rfl rfl (any_of HT_.out (by kernel_rfl)) (fun _ _ _ h => h) (Or.inl ⟨by rfl, ?_⟩) ?_ ?_
          rotate_left
          ·intro w'
           go_simp
           with_reducible rfl
          rotate_left
          ·simp only [Act.put, List.setIfInBounds_toArray, List.set_cons_zero, List.set_cons_succ, i64_w, i32_w]
           rfl
          exact norm_ Z5x5 (hJ4_9_14_19_24_33_42_43 (.slice Ao28 t166.length co28, .slice Ao23 t171.length co23, .slice Ao24 t176.length co24, .slice Ao27 y179.length co27) _ ⟨hHeld, Z5x21, (by (with_reducible repeat (first | apply Kd.N_alloc | apply Kd.N_drewN | apply Kd.N_drew)); exact HO181.out), Z5x2, Z5x3, Z5x4, Z5x0⟩)
         ·skip
          refine box_step ?hg (N := 5) ?hd (cs := #[.int .i64 0, .int .i64 0, .int .i64 0, .int .i64 0, .slice none 0 0, .slice none 0 0, .slice none 0 0]) (t := 26) ?hr ?_; (case hd => rfl); (case hg => rfl); (case hr => first | (go_simp; done) | (go_simp; rfl));intro gb182 hg w23 hbox hb;have n0_ := Aside0.mk (Kd.R_below Z5x11 hb);have n1_ := Aside0.mk (Kd.R_below Z5x19 hb);have n2_ := Aside0.mk (Kd.R_below (by (with_reducible repeat (first | apply Kd.R_alloc | apply Kd.R_drewN | apply Kd.R_drew)); exact HO178.out) hb);have n3_ := Aside0.mk (blk_below (g := gb159) (o := .cells #[.int .i64 a0_0, .int .i64 a0_1, .int .i64 a0_2, .int .i64 a0_3, .slice A0_4 l0_4.length c0_4, .slice A0_5 l0_5.length c0_5, .slice (some ad169) l0_6.length c0_6] 26 (0, 0)) Z5x2 hb);have n4_ := Aside0.mk (blk_below (g := gb160) (o := .cells #[.int .i64 a1_0, .int .i64 a1_1, .int .i64 a1_2, .int .i64 a1_3, .slice A1_4 l1_4.length c1_4, .slice A1_5 l1_5.length c1_5, .slice (some ad170) l1_6.length c1_6] 26 (0, 0)) Z5x3 hb);have n5_ := Aside0.mk (blk_below (g := gb161) (o := .cells #[.int .i64 0, .int .i64 0, .int .i64 0, .int .i64 0, .slice none 0 0, .slice none 0 0, .slice none 0 0] 26 (0, 0)) Z5x4 hb);have n6_ := Aside0.mk (below_step Z5x0 hb);have n7_ := Aside0.mk (hbox);have n8_ := Aside0.mk ((Z5x20 : w.heap.size ≤ gb182));have n9_ := Aside0.mk ((Z5x20 : w.heap.size ≤ gb182));have n10_ := Aside0.mk ((Z5x12 : gb159 ≠ gb182));have n11_ := Aside0.mk ((Z5x13 : gb182 ≠ gb159));have n12_ := Aside0.mk ((Z5x14 : gb160 ≠ gb182));have n13_ := Aside0.mk ((Z5x15 : gb182 ≠ gb160));have n14_ := Aside0.mk ((Z5x17 : gb161 ≠ gb182));have n15_ := Aside0.mk ((Z5x18 : gb182 ≠ gb161));clear HO168;clear HO173;clear HO178;clear BK159;clear BK160;clear BK161;clear HB;have HO168 := n0_;have HO173 := n1_;have HO178 := n2_;have BK159 := n3_;have BK160 := n4_;have BK161 := n5_;have HB := n6_;have BK182 := n7_;have GW182 := n8_;have GE182 := n9_;have NB159_182 := n10_;have NB182_159 := n11_;have NB160_182 := n12_;have NB182_160 := n13_;have NB161_182 := n14_;have NB182_161 := n15_;clear n0_ n1_ n2_ n3_ n4_ n5_ n6_ n7_ n8_ n9_ n10_ n11_ n12_ n13_ n14_ n15_;clear hb hbox hg;refine hK.out _ _ (Z5q BK159.out BK160.out ((HB.out.cell (World.block_lt_of_cell? w _ hw169_0)).trans hw169_0) ((HB.out.cell (World.block_lt_of_cell? w _ hw170_0)).trans hw170_0) ((HB.out.cell (World.block_lt_of_cell? w _ hw174_0)).trans hw174_0) ((HB.out.cell (World.block_lt_of_cell? w _ hw175_0)).trans hw175_0)) (fun hHeld => ?_);clear hK K;refine norm_ (a' := ?_) ?_ ?_
          rotate_left
          ·show Act.put _ (some 5) _ = _
           simp only [Act.put, List.setIfInBounds_toArray, List.set_cons_zero, List.set_cons_succ, i64_w, i32_w]
           rfl
          exact norm_ Z5x5 (hJ4_9_14_19_24_33_42_45 (v167, v172, v177, gb182) _ ⟨hHeld, Z5x11, Z5x19, (by (with_reducible repeat (first | apply Kd.R_alloc | apply Kd.R_drewN | apply Kd.R_drew)); exact HO178.out), Z5x2, Z5x3, Z5x4, Z5x10, GW182.out, GE182.out, NB159_182.out, NB182_159.out, NB160_182.out, NB182_160.out, NB161_182.out, NB182_161.out, Z5x1⟩)
       ·skip
        rintro ⟨v167, v172, v177, gb182⟩ w23 ⟨hS_, h0_, h1_, h2_, h3_, h4_, h5_, h6_, h7_, h8_, h9_, h10_, h11_, h12_, h13_, h14_, h15_⟩
        have n0_ : Aside0 (Kd.R (Kd.int .i64) 3 w23 w.heap.size (fun k_ => (w.heap.size ≤ k_) ∧ some k_ ≠ (v172 : Value).ownBlock ∧ some k_ ≠ (v177 : Value).ownBlock) v167 t166) := ⟨h0_⟩;have n1_ : Aside0 (Kd.R (Kd.int .i64) 3 w23 w.heap.size (fun k_ => (w.heap.size ≤ k_) ∧ some k_ ≠ (v167 : Value).ownBlock ∧ some k_ ≠ (v177 : Value).ownBlock) v172 t171) := ⟨h1_⟩;have n2_ : Aside0 (Kd.R (Kd.int .i64) 3 w23 w.heap.size (fun k_ => (w.heap.size ≤ k_) ∧ some k_ ≠ (v167 : Value).ownBlock ∧ some k_ ≠ (v172 : Value).ownBlock) v177 t176) := ⟨h2_⟩;have n3_ : Aside0 (w23.heap[gb159]? = some (.cells #[.int .i64 a0_0, .int .i64 a0_1, .int .i64 a0_2, .int .i64 a0_3, .slice A0_4 l0_4.length c0_4, .slice A0_5 l0_5.length c0_5, .slice (some ad169) l0_6.length c0_6] 26 (0, 0))) := ⟨h3_⟩;have n4_ : Aside0 (w23.heap[gb160]? = some (.cells #[.int .i64 a1_0, .int .i64 a1_1, .int .i64 a1_2, .int .i64 a1_3, .slice A1_4 l1_4.length c1_4, .slice A1_5 l1_5.length c1_5, .slice (some ad170) l1_6.length c1_6] 26 (0, 0))) := ⟨h4_⟩;have n5_ : Aside0 (w23.heap[gb161]? = some (.cells #[.int .i64 0, .int .i64 0, .int .i64 0, .int .i64 0, .slice none 0 0, .slice none 0 0, .slice none 0 0] 26 (0, 0))) := ⟨h5_⟩;have n6_ : Aside0 (w23.heap[gb182]? = some (.cells #[.int .i64 0, .int .i64 0, .int .i64 0, .int .i64 0, .slice none 0 0, .slice none 0 0, .slice none 0 0] 26 (0, 0))) := ⟨h6_⟩;have n7_ : Aside0 (w.heap.size ≤ gb182) := ⟨h7_⟩;have n8_ : Aside0 (w.heap.size ≤ gb182) := ⟨h8_⟩;have n9_ : Aside0 (gb159 ≠ gb182) := ⟨h9_⟩;have n10_ : Aside0 (gb182 ≠ gb159) := ⟨h10_⟩;have n11_ : Aside0 (gb160 ≠ gb182) := ⟨h11_⟩;have n12_ : Aside0 (gb182 ≠ gb160) := ⟨h12_⟩;have n13_ : Aside0 (gb161 ≠ gb182) := ⟨h13_⟩;have n14_ : Aside0 (gb182 ≠ gb161) := ⟨h14_⟩;have n15_ : Aside0 (Below w.heap.size w w23) := ⟨h15_⟩;clear BK159;clear BK160;clear BK161;clear HB;clear h0_ h1_ h2_ h3_ h4_ h5_ h6_ h7_ h8_ h9_ h10_ h11_ h12_ h13_ h14_ h15_;have HO168 := n0_;have HO173 := n1_;have HO178 := n2_;have BK159 := n3_;have BK160 := n4_;have BK161 := n5_;have BK182 := n6_;have GW182 := n7_;have GE182 := n8_;have NB159_182 := n9_;have NB182_159 := n10_;have NB160_182 := n11_;have NB182_160 := n12_;have NB161_182 := n13_;have NB182_161 := n14_;have HB := n15_;clear n0_ n1_ n2_ n3_ n4_ n5_ n6_ n7_ n8_ n9_ n10_ n11_ n12_ n13_ n14_ n15_;have hHeld := hS_;refine norm_ (a' := ?_) ?_ ?_
        rotate_left
        ·simp only [putAll, Act.put, List.setIfInBounds_toArray, List.set_cons_zero, List.set_cons_succ]
         rfl
        refine one_ (i := 43) (N := some 50) #[true, true, true, true, true, true, true, true, true, true, true, true, true, true, true, true, true, true, true, true, true, true, true, true, true, true, true, true, true, true, true, true, true, true, true, true, true, true, true, true, true, true, true, true, false, true, false] rfl rfl (one_of HT_.out (by kernel_rfl)) (by decide) (fun K hK => ?_);obtain ⟨Ao24, co24, eo24⟩ := Kd.R_slice HO173.out
        (first | subst eo24 | (injection eo24 with f1_ f2_ f3_; have f4_ := f1_.symm; have f5_ := f3_.symm; clear f1_ f2_ f3_; subst f4_; subst f5_))
        obtain ⟨Ao25, co25, eo25⟩ := Kd.R_slice HO178.out
        (first | subst eo25 | (injection eo25 with f1_ f2_ f3_; have f4_ := f1_.symm; have f5_ := f3_.symm; clear f1_ f2_ f3_; subst f4_; subst f5_))
        refine Kd.N_lit_step (Kd.slice 3 (Kd.int .i64)) _ 23 ?hg (N' := 50) ?hd (xs := ([t171, t176] : List (List Int))) (inner := [.slice Ao24 t171.length co24, .slice Ao25 t176.length co25]) (ok := (fun k_ => (w.heap.size ≤ k_) ∧ some k_ ≠ (v167 : Value).ownBlock ∧ k_ ≠ gb159 ∧ k_ ≠ gb160 ∧ k_ ≠ gb161 ∧ k_ ≠ gb182)) (okp := (fun k_ => (w.heap.size ≤ k_) ∧ some k_ ≠ (v167 : Value).ownBlock ∧ k_ ≠ gb159 ∧ k_ ≠ gb160 ∧ k_ ≠ gb161 ∧ k_ ≠ gb182)) ?hr ?hp (fun _ hk => hk) ((show ∀ k_, w23.heap.size ≤ k_ → (fun k_ => (w.heap.size ≤ k_) ∧ some k_ ≠ (v167 : Value).ownBlock ∧ k_ ≠ gb159 ∧ k_ ≠ gb160 ∧ k_ ≠ gb161 ∧ k_ ≠ gb182) k_ from fun k_ hk => ⟨(Nat.le_trans (below_size Z5x1) hk), Kd.fresh' (Kd.R_lt Z5x11) k_ hk, Kd.freshB (g := gb159) (o := .cells #[.int .i64 a0_0, .int .i64 a0_1, .int .i64 a0_2, .int .i64 a0_3, .slice A0_4 l0_4.length c0_4, .slice A0_5 l0_5.length c0_5, .slice (some ad169) l0_6.length c0_6] 26 (0, 0)) Z5x2 k_ hk, Kd.freshB (g := gb160) (o := .cells #[.int .i64 a1_0, .int .i64 a1_1, .int .i64 a1_2, .int .i64 a1_3, .slice A1_4 l1_4.length c1_4, .slice A1_5 l1_5.length c1_5, .slice (some ad170) l1_6.length c1_6] 26 (0, 0)) Z5x3 k_ hk, Kd.freshB (g := gb161) (o := .cells #[.int .i64 0, .int .i64 0, .int .i64 0, .int .i64 0, .slice none 0 0, .slice none 0 0, .slice none 0 0] 26 (0, 0)) Z5x4 k_ hk, Kd.freshB (g := gb182) (o := .cells #[.int .i64 0, .int .i64 0, .int .i64 0, .int .i64 0, .slice none 0 0, .slice none 0 0, .slice none 0 0] 26 (0, 0)) Z5x10 k_ hk⟩) _ (Nat.le_refl _)) (Below.refl _ _) (Nat.le_refl _) (by simp) ?_; (case hd => rfl); (case hg => rfl); (case hr => first | (go_simp; done) | (go_simp; rfl)); (case hp => exact (Reps.one (show Kd.FK (Kd.slice 3 (Kd.int .i64)) _ _ t171 [.slice Ao24 t171.length co24] from (Kd.FK_slice_mk (Kd.R_reads' (Kd.R_mono (ok' := (fun k_ => (w.heap.size ≤ k_) ∧ some k_ ≠ (v167 : Value).ownBlock ∧ k_ ≠ gb159 ∧ k_ ≠ gb160 ∧ k_ ≠ gb161 ∧ k_ ≠ gb182)) (Kd.R_types (Kd.R_types (Kd.R_types (Kd.R_types (HO173.out) BK159.out (by decide)) BK160.out (by decide)) BK161.out (by decide)) BK182.out (by decide)) (fun k_ hk => ⟨hk.1.1.1.1.1, ⟨hk.1.1.1.1.2.1, ⟨hk.1.1.1.2, ⟨hk.1.1.2, ⟨hk.1.2, hk.2⟩⟩⟩⟩⟩))).2.1 (Kd.R_F (Kd.R_mono (ok' := (fun k_ => (w.heap.size ≤ k_) ∧ some k_ ≠ (v167 : Value).ownBlock ∧ k_ ≠ gb159 ∧ k_ ≠ gb160 ∧ k_ ≠ gb161 ∧ k_ ≠ gb182)) (Kd.R_types (Kd.R_types (Kd.R_types (Kd.R_types (HO173.out) BK159.out (by decide)) BK160.out (by decide)) BK161.out (by decide)) BK182.out (by decide)) (fun k_ hk => ⟨hk.1.1.1.1.1, ⟨hk.1.1.1.1.2.1, ⟨hk.1.1.1.2, ⟨hk.1.1.2, ⟨hk.1.2, hk.2⟩⟩⟩⟩⟩))))) (Reps.one (show Kd.FK (Kd.slice 3 (Kd.int .i64)) _ _ t176 [.slice Ao25 t176.length co25] from (Kd.FK_slice_mk (Kd.R_reads' (Kd.R_mono (ok' := (fun k_ => (w.heap.size ≤ k_) ∧ some k_ ≠ (v167 : Value).ownBlock ∧ k_ ≠ gb159 ∧ k_ ≠ gb160 ∧ k_ ≠ gb161 ∧ k_ ≠ gb182)) (Kd.R_types (Kd.R_types (Kd.R_types (Kd.R_types (HO178.out) BK159.out (by decide)) BK160.out (by decide)) BK161.out (by decide)) BK182.out (by decide)) (fun k_ hk => ⟨hk.1.1.1.1.1, ⟨hk.1.1.1.1.2.1, ⟨hk.1.1.1.2, ⟨hk.1.1.2, ⟨hk.1.2, hk.2⟩⟩⟩⟩⟩))).2.1 (Kd.R_F (Kd.R_mono (ok' := (fun k_ => (w.heap.size ≤ k_) ∧ some k_ ≠ (v167 : Value).ownBlock ∧ k_ ≠ gb159 ∧ k_ ≠ gb160 ∧ k_ ≠ gb161 ∧ k_ ≠ gb182)) (Kd.R_types (Kd.R_types (Kd.R_types (Kd.R_types (HO178.out) BK159.out (by decide)) BK160.out (by decide)) BK161.out (by decide)) BK182.out (by decide)) (fun k_ hk => ⟨hk.1.1.1.1.1, ⟨hk.1.1.1.1.2.1, ⟨hk.1.1.1.2, ⟨hk.1.1.2, ⟨hk.1.2, hk.2⟩⟩⟩⟩⟩))))) (Reps.none _ _))));intro v180 w26 ho27 hb hg_ hnew_;clear hg_ hnew_
        (first | rw [← Ny179.out] at ho27 | (simp only [Int.reduceToNat] at ho27; rw [← Ny179.out] at ho27))
        have n0_ := Aside0.mk (Kd.R_below Z5x11 hb);have n1_ := Aside0.mk (Kd.N_lower ho27 (below_size Z5x1));have n2_ := Aside0.mk (blk_below (g := gb159) (o := .cells #[.int .i64 a0_0, .int .i64 a0_1, .int .i64 a0_2, .int .i64 a0_3, .slice A0_4 l0_4.length c0_4, .slice A0_5 l0_5.length c0_5, .slice (some ad169) l0_6.length c0_6] 26 (0, 0)) Z5x2 hb);have n3_ := Aside0.mk (blk_below (g := gb160) (o := .cells #[.int .i64 a1_0, .int .i64 a1_1, .int .i64 a1_2, .int .i64 a1_3, .slice A1_4 l1_4.length c1_4, .slice A1_5 l1_5.length c1_5, .slice (some ad170) l1_6.length c1_6] 26 (0, 0)) Z5x3 hb);have n4_ := Aside0.mk (blk_below (g := gb161) (o := .cells #[.int .i64 0, .int .i64 0, .int .i64 0, .int .i64 0, .slice none 0 0, .slice none 0 0, .slice none 0 0] 26 (0, 0)) Z5x4 hb);have n5_ := Aside0.mk (blk_below (g := gb182) (o := .cells #[.int .i64 0, .int .i64 0, .int .i64 0, .int .i64 0, .slice none 0 0, .slice none 0 0, .slice none 0 0] 26 (0, 0)) Z5x10 hb);have n6_ := Aside0.mk (below_step Z5x1 hb);clear HO168;clear BK159;clear BK160;clear BK161;clear BK182;clear HB;clear HO173;clear HO178;have HO168 := n0_;have HO181 := n1_;have BK159 := n2_;have BK160 := n3_;have BK161 := n4_;have BK182 := n5_;have HB := n6_;clear n0_ n1_ n2_ n3_ n4_ n5_ n6_;clear hb ho27;obtain ⟨Ao28, co28, eo28⟩ := Kd.N_slice HO181.out
        (first | subst eo28 | (injection eo28 with f1_ f2_ f3_; have f4_ := f1_.symm; have f5_ := f3_.symm; clear f1_ f2_ f3_; subst f4_; subst f5_))
        obtain ⟨Ao29, co29, eo29⟩ := Kd.R_slice HO168.out
        (first | subst eo29 | (injection eo29 with f1_ f2_ f3_; have f4_ := f1_.symm; have f5_ := f3_.symm; clear f1_ f2_ f3_; subst f4_; subst f5_))
        refine hK.out _ _ (Z5q BK159.out BK160.out ((HB.out.cell (World.block_lt_of_cell? w _ hw169_0)).trans hw169_0) ((HB.out.cell (World.block_lt_of_cell? w _ hw170_0)).trans hw170_0) ((HB.out.cell (World.block_lt_of_cell? w _ hw174_0)).trans hw174_0) ((HB.out.cell (World.block_lt_of_cell? w _ hw175_0)).trans hw175_0)) (fun hHeld => ?_);clear hK K;refine norm_ (a' := ?_) ?_ ?_
        rotate_left
        ·show Act.put _ (some 50) _ = _
         simp only [Act.put, List.setIfInBounds_toArray, List.set_cons_zero, List.set_cons_succ, i64_w, i32_w]
         rfl
        refine pure_ (i := 44) (N := some 51) (v := ?_) (a' := ?_) #[true, true, true, true, true, true, true, true, true, true, true, true, true, true, true, true, true, true, true, true, true, true, true, true, true, true, true, true, true, true, true, true, true, true, true, true, true, true, true, true, true, true, true, true, true, true, false] rfl rfl (any_of HT_.out (by kernel_rfl)) (fun _ _ _ h => h) (Or.inl ⟨by rfl, ?_⟩) ?_ ?_
        rotate_left
        ·intro w'
         go_simp
         with_reducible rfl
        rotate_left
        ·simp only [Act.put, List.setIfInBounds_toArray, List.set_cons_zero, List.set_cons_succ, i64_w, i32_w]
         rfl
        exact norm_ Z5x5 (hJ4_9_14_19_24_33_42_43_45 (.slice Ao29 t166.length co29, .slice Ao24 t171.length co24, .slice Ao25 t176.length co25, .slice Ao28 y179.length co28, gb182) _ ⟨hHeld, Z5x21, (by (with_reducible repeat (first | apply Kd.N_alloc | apply Kd.N_drewN | apply Kd.N_drew)); exact HO181.out), Z5x2, Z5x3, Z5x4, Z5x10, GW182.out, GE182.out, NB159_182.out, NB182_159.out, NB160_182.out, NB182_160.out, NB161_182.out, NB182_161.out, Z5x1⟩)
      ·skip
       rintro ⟨v167, v172, v177, v180⟩ w28 ⟨hS_, h0_, h1_, h2_, h3_, h4_, h5_⟩
       have n0_ : Aside0 (Kd.R (Kd.int .i64) 3 w28 w.heap.size (fun k_ => (w.heap.size ≤ k_)) v167 t166) := ⟨h0_⟩;have n1_ : Aside0 (Kd.N (Kd.slice 3 (Kd.int .i64)) 23 w28 w.heap.size (fun k_ => (w.heap.size ≤ k_) ∧ some k_ ≠ (v167 : Value).ownBlock ∧ k_ ≠ gb159 ∧ k_ ≠ gb160 ∧ k_ ≠ gb161) v180 y179) := ⟨h1_⟩;have n2_ : Aside0 (w28.heap[gb159]? = some (.cells #[.int .i64 a0_0, .int .i64 a0_1, .int .i64 a0_2, .int .i64 a0_3, .slice A0_4 l0_4.length c0_4, .slice A0_5 l0_5.length c0_5, .slice (some ad169) l0_6.length c0_6] 26 (0, 0))) := ⟨h2_⟩;have n3_ : Aside0 (w28.heap[gb160]? = some (.cells #[.int .i64 a1_0, .int .i64 a1_1, .int .i64 a1_2, .int .i64 a1_3, .slice A1_4 l1_4.length c1_4, .slice A1_5 l1_5.length c1_5, .slice (some ad170) l1_6.length c1_6] 26 (0, 0))) := ⟨h3_⟩;have n4_ : Aside0 (w28.heap[gb161]? = some (.cells #[.int .i64 0, .int .i64 0, .int .i64 0, .int .i64 0, .slice none 0 0, .slice none 0 0, .slice none 0 0] 26 (0, 0))) := ⟨h4_⟩;have n5_ : Aside0 (Below w.heap.size w w28) := ⟨h5_⟩;clear BK159;clear BK160;clear BK161;clear HB;clear h0_ h1_ h2_ h3_ h4_ h5_;have HO168 := n0_;have HO181 := n1_;have BK159 := n2_;have BK160 := n3_;have BK161 := n4_;have HB := n5_;clear n0_ n1_ n2_ n3_ n4_ n5_;have hHeld := hS_;obtain ⟨Ao29, co29, eo29⟩ := Kd.N_slice HO181.out
       (first | subst eo29 | (injection eo29 with f1_ f2_ f3_; have f4_ := f1_.symm; have f5_ := f3_.symm; clear f1_ f2_ f3_; subst f4_; subst f5_))
       obtain ⟨Ao30, co30, eo30⟩ := Kd.R_slice HO168.out
       (first | subst eo30 | (injection eo30 with f1_ f2_ f3_; have f4_ := f1_.symm; have f5_ := f3_.symm; clear f1_ f2_ f3_; subst f4_; subst f5_))
       refine norm_ (a' := ?_) ?_ ?_
       rotate_left
       ·simp only [putAll, Act.put, List.setIfInBounds_toArray, List.set_cons_zero, List.set_cons_succ]
        rfl
       refine one_ (i := 45) (N := some 5) #[true, true, true, true, true, true, true, true, true, true, true, true, true, true, true, true, true, true, true, true, true, true, true, true, true, true, true, true, true, true, true, true, true, true, true, true, true, true, true, true, true, true, true, true, true, true, false] rfl rfl (one_of HT_.out (by kernel_rfl)) (by decide) (fun K hK => ?_);refine box_step ?hg (N := 5) ?hd (cs := #[.int .i64 0, .int .i64 0, .int .i64 0, .int .i64 0, .slice none 0 0, .slice none 0 0, .slice none 0 0]) (t := 26) ?hr ?_; (case hd => rfl); (case hg => rfl); (case hr => first | (go_simp; done) | (go_simp; rfl));intro gb182 hg w31 hbox hb;have n0_ := Aside0.mk (Kd.R_below Z5x11 hb);have n1_ := Aside0.mk (Kd.N_below (Kd.N_elderB (by (with_reducible repeat (first | apply Kd.N_alloc | apply Kd.N_drewN | apply Kd.N_drew)); exact HO181.out) gb182 (Nat.le_of_eq hg.symm)) hb);have n2_ := Aside0.mk (blk_below (g := gb159) (o := .cells #[.int .i64 a0_0, .int .i64 a0_1, .int .i64 a0_2, .int .i64 a0_3, .slice A0_4 l0_4.length c0_4, .slice A0_5 l0_5.length c0_5, .slice (some ad169) l0_6.length c0_6] 26 (0, 0)) Z5x2 hb);have n3_ := Aside0.mk (blk_below (g := gb160) (o := .cells #[.int .i64 a1_0, .int .i64 a1_1, .int .i64 a1_2, .int .i64 a1_3, .slice A1_4 l1_4.length c1_4, .slice A1_5 l1_5.length c1_5, .slice (some ad170) l1_6.length c1_6] 26 (0, 0)) Z5x3 hb);have n4_ := Aside0.mk (blk_below (g := gb161) (o := .cells #[.int .i64 0, .int .i64 0, .int .i64 0, .int .i64 0, .slice none 0 0, .slice none 0 0, .slice none 0 0] 26 (0, 0)) Z5x4 hb);have n5_ := Aside0.mk (below_step Z5x0 hb);have n6_ := Aside0.mk (hbox);have n7_ := Aside0.mk ((Z5x20 : w.heap.size ≤ gb182));have n8_ := Aside0.mk ((Z5x20 : w.heap.size ≤ gb182));have n9_ := Aside0.mk ((Z5x12 : gb159 ≠ gb182));have n10_ := Aside0.mk ((Z5x13 : gb182 ≠ gb159));have n11_ := Aside0.mk ((Z5x14 : gb160 ≠ gb182));have n12_ := Aside0.mk ((Z5x15 : gb182 ≠ gb160));have n13_ := Aside0.mk ((Z5x17 : gb161 ≠ gb182));have n14_ := Aside0.mk ((Z5x18 : gb182 ≠ gb161));clear HO168;clear HO181;clear BK159;clear BK160;clear BK161;clear HB;have HO168 := n0_;have HO181 := n1_;have BK159 := n2_;have BK160 := n3_;have BK161 := n4_;have HB := n5_;have BK182 := n6_;have GW182 := n7_;have GE182 := n8_;have NB159_182 := n9_;have NB182_159 := n10_;have NB160_182 := n11_;have NB182_160 := n12_;have NB161_182 := n13_;have NB182_161 := n14_;clear n0_ n1_ n2_ n3_ n4_ n5_ n6_ n7_ n8_ n9_ n10_ n11_ n12_ n13_ n14_;clear hb hbox hg;refine hK.out _ _ (Z5q BK159.out BK160.out ((HB.out.cell (World.block_lt_of_cell? w _ hw169_0)).trans hw169_0) ((HB.out.cell (World.block_lt_of_cell? w _ hw170_0)).trans hw170_0) ((HB.out.cell (World.block_lt_of_cell? w _ hw174_0)).trans hw174_0) ((HB.out.cell (World.block_lt_of_cell? w _ hw175_0)).trans hw175_0)) (fun hHeld => ?_);clear hK K;refine norm_ (a' := ?_) ?_ ?_
       rotate_left
       ·show Act.put _ (some 5) _ = _
        simp only [Act.put, List.setIfInBounds_toArray, List.set_cons_zero, List.set_cons_succ, i64_w, i32_w]
        rfl
       exact norm_ Z5x5 (hJ4_9_14_19_24_33_42_43_45 (.slice Ao30 t166.length co30, v172, v177, .slice Ao29 y179.length co29, gb182) _ ⟨hHeld, Z5x11, (by (with_reducible repeat (first | apply Kd.N_alloc | apply Kd.N_drewN | apply Kd.N_drew)); exact Kd.N_mono HO181.out (fun _ hk => ⟨hk.1.1, ⟨hk.1.2.1, ⟨hk.1.2.2.1, ⟨hk.1.2.2.2.1, ⟨hk.1.2.2.2.2, hk.2⟩⟩⟩⟩⟩)), Z5x2, Z5x3, Z5x4, Z5x10, GW182.out, GE182.out, NB159_182.out, NB182_159.out, NB160_182.out, NB182_160.out, NB161_182.out, NB182_161.out, Z5x1⟩)
     rintro ⟨v167, v172, v177, v180, gb182⟩ w29 ⟨hS_, h0_, h1_, h2_, h3_, h4_, h5_, h6_, h7_, h8_, h9_, h10_, h11_, h12_, h13_, h14_⟩
     have n0_ : Aside0 (Kd.R (Kd.int .i64) 3 w29 w.heap.size (fun k_ => (w.heap.size ≤ k_)) v167 t166) := ⟨h0_⟩;have n1_ : Aside0 (Kd.N (Kd.slice 3 (Kd.int .i64)) 23 w29 w.heap.size (fun k_ => (w.heap.size ≤ k_) ∧ some k_ ≠ (v167 : Value).ownBlock ∧ k_ ≠ gb159 ∧ k_ ≠ gb160 ∧ k_ ≠ gb161 ∧ k_ ≠ gb182) v180 y179) := ⟨h1_⟩;have n2_ : Aside0 (w29.heap[gb159]? = some (.cells #[.int .i64 a0_0, .int .i64 a0_1, .int .i64 a0_2, .int .i64 a0_3, .slice A0_4 l0_4.length c0_4, .slice A0_5 l0_5.length c0_5, .slice (some ad169) l0_6.length c0_6] 26 (0, 0))) := ⟨h2_⟩;have n3_ : Aside0 (w29.heap[gb160]? = some (.cells #[.int .i64 a1_0, .int .i64 a1_1, .int .i64 a1_2, .int .i64 a1_3, .slice A1_4 l1_4.length c1_4, .slice A1_5 l1_5.length c1_5, .slice (some ad170) l1_6.length c1_6] 26 (0, 0))) := ⟨h3_⟩;have n4_ : Aside0 (w29.heap[gb161]? = some (.cells #[.int .i64 0, .int .i64 0, .int .i64 0, .int .i64 0, .slice none 0 0, .slice none 0 0, .slice none 0 0] 26 (0, 0))) := ⟨h4_⟩;have n5_ : Aside0 (w29.heap[gb182]? = some (.cells #[.int .i64 0, .int .i64 0, .int .i64 0, .int .i64 0, .slice none 0 0, .slice none 0 0, .slice none 0 0] 26 (0, 0))) := ⟨h5_⟩;have n6_ : Aside0 (w.heap.size ≤ gb182) := ⟨h6_⟩;have n7_ : Aside0 (w.heap.size ≤ gb182) := ⟨h7_⟩;have n8_ : Aside0 (gb159 ≠ gb182) := ⟨h8_⟩;have n9_ : Aside0 (gb182 ≠ gb159) := ⟨h9_⟩;have n10_ : Aside0 (gb160 ≠ gb182) := ⟨h10_⟩;have n11_ : Aside0 (gb182 ≠ gb160) := ⟨h11_⟩;have n12_ : Aside0 (gb161 ≠ gb182) := ⟨h12_⟩;have n13_ : Aside0 (gb182 ≠ gb161) := ⟨h13_⟩;have n14_ : Aside0 (Below w.heap.size w w29) := ⟨h14_⟩;clear BK159;clear BK160;clear BK161;clear HB;clear h0_ h1_ h2_ h3_ h4_ h5_ h6_ h7_ h8_ h9_ h10_ h11_ h12_ h13_ h14_;have HO168 := n0_;have HO181 := n1_;have BK159 := n2_;have BK160 := n3_;have BK161 := n4_;have BK182 := n5_;have GW182 := n6_;have GE182 := n7_;have NB159_182 := n8_;have NB182_159 := n9_;have NB160_182 := n10_;have NB182_160 := n11_;have NB161_182 := n12_;have NB182_161 := n13_;have HB := n14_;clear n0_ n1_ n2_ n3_ n4_ n5_ n6_ n7_ n8_ n9_ n10_ n11_ n12_ n13_ n14_;have hHeld := hS_;obtain ⟨Ao30, co30, eo30⟩ := Kd.N_slice HO181.out
     (first | subst eo30 | (injection eo30 with f1_ f2_ f3_; have f4_ := f1_.symm; have f5_ := f3_.symm; clear f1_ f2_ f3_; subst f4_; subst f5_))
     obtain ⟨Ao31, co31, eo31⟩ := Kd.R_slice HO168.out
     (first | subst eo31 | (injection eo31 with f1_ f2_ f3_; have f4_ := f1_.symm; have f5_ := f3_.symm; clear f1_ f2_ f3_; subst f4_; subst f5_))
     refine norm_ (a' := ?_) ?_ ?_
     rotate_left
     ·simp only [putAll, Act.put, List.setIfInBounds_toArray, List.set_cons_zero, List.set_cons_succ]
      rfl
     refine one_ (i := 46) (N := none) #[true, true, true, true, true, true, true, true, true, true, true, true, true, true, true, true, true, true, true, true, true, true, true, true, true, true, true, true, true, true, true, true, true, true, true, true, true, true, true, true, true, true, true, true, true, true, true] rfl rfl (one_of HT_.out (by kernel_rfl)) (by decide) (fun K hK => ?_);have hs32 : w29.cell? ⟨gb182, 0, none⟩ = some (.int .i64 0) := (blk_cell BK182.out 0).trans rfl;have hfs32 := blk_frozen BK182.out 0;have hns32_0 := NB159_182.out;have hns32_1 := NB160_182.out;have hns32_2 := NB161_182.out;have hms32_0 := NB182_159.out;have hms32_1 := NB182_160.out;have hms32_2 := NB182_161.out;have hs33 : w29.cell? ⟨gb182, 1, none⟩ = some (.int .i64 0) := (blk_cell BK182.out 1).trans rfl;have hfs33 := blk_frozen BK182.out 1;have hns33_0 := NB159_182.out;have hns33_1 := NB160_182.out;have hns33_2 := NB161_182.out;have hms33_0 := NB182_159.out;have hms33_1 := NB182_160.out;have hms33_2 := NB182_161.out;have hs34 : w29.cell? ⟨gb182, 2, none⟩ = some (.int .i64 0) := (blk_cell BK182.out 2).trans rfl;have hfs34 := blk_frozen BK182.out 2;have hns34_0 := NB159_182.out;have hns34_1 := NB160_182.out;have hns34_2 := NB161_182.out;have hms34_0 := NB182_159.out;have hms34_1 := NB182_160.out;have hms34_2 := NB182_161.out;have hs35 : w29.cell? ⟨gb182, 3, none⟩ = some (.int .i64 0) := (blk_cell BK182.out 3).trans rfl;have hfs35 := blk_frozen BK182.out 3;have hns35_0 := NB159_182.out;have hns35_1 := NB160_182.out;have hns35_2 := NB161_182.out;have hms35_0 := NB182_159.out;have hms35_1 := NB182_160.out;have hms35_2 := NB182_161.out;have hs36 : w29.cell? ⟨gb182, 4, none⟩ = some (.slice none 0 0) := (blk_cell BK182.out 4).trans rfl;have hfs36 := blk_frozen BK182.out 4;have hns36_0 := NB159_182.out;have hns36_1 := NB160_182.out;have hns36_2 := NB161_182.out;have hms36_0 := NB182_159.out;have hms36_1 := NB182_160.out;have hms36_2 := NB182_161.out;have hs37 : w29.cell? ⟨gb182, 5, none⟩ = some (.slice none 0 0) := (blk_cell BK182.out 5).trans rfl;have hfs37 := blk_frozen BK182.out 5;have hns37_0 := NB159_182.out;have hns37_1 := NB160_182.out;have hns37_2 := NB161_182.out;have hms37_0 := NB182_159.out;have hms37_1 := NB182_160.out;have hms37_2 := NB182_161.out;have hs38 : w29.cell? ⟨gb182, 6, none⟩ = some (.slice none 0 0) := (blk_cell BK182.out 6).trans rfl;have hfs38 := blk_frozen BK182.out 6;have hns38_0 := NB159_182.out;have hns38_1 := NB160_182.out;have hns38_2 := NB161_182.out;have hms38_0 := NB182_159.out;have hms38_1 := NB182_160.out;have hms38_2 := NB182_161.out;refine skip_ (w1 := ?_) (by rfl) rfl ?_ ?_
     rotate_left
     ·go_simp
      rfl
     refine hK.out _ _ ⟨((cell_far (p := ⟨gb182, _, none⟩) NB159_182.out _).trans (((cell_far (p := ⟨gb182, _, none⟩) NB159_182.out _).trans (((cell_far (p := ⟨gb182, _, none⟩) NB159_182.out _).trans (((cell_far (p := ⟨gb182, _, none⟩) NB159_182.out _).trans (((cell_far (p := ⟨gb182, _, none⟩) NB159_182.out _).trans (((cell_far (p := ⟨gb182, _, none⟩) NB159_182.out _).trans (((cell_far (p := ⟨gb182, _, none⟩) NB159_182.out _).trans (hHeld.1)))))))))))))), ((cell_far (p := ⟨gb182, _, none⟩) NB159_182.out _).trans (((cell_far (p := ⟨gb182, _, none⟩) NB159_182.out _).trans (((cell_far (p := ⟨gb182, _, none⟩) NB159_182.out _).trans (((cell_far (p := ⟨gb182, _, none⟩) NB159_182.out _).trans (((cell_far (p := ⟨gb182, _, none⟩) NB159_182.out _).trans (((cell_far (p := ⟨gb182, _, none⟩) NB159_182.out _).trans (((cell_far (p := ⟨gb182, _, none⟩) NB159_182.out _).trans (hHeld.2.1)))))))))))))), ((cell_far (p := ⟨gb182, _, none⟩) NB159_182.out _).trans (((cell_far (p := ⟨gb182, _, none⟩) NB159_182.out _).trans (((cell_far (p := ⟨gb182, _, none⟩) NB159_182.out _).trans (((cell_far (p := ⟨gb182, _, none⟩) NB159_182.out _).trans (((cell_far (p := ⟨gb182, _, none⟩) NB159_182.out _).trans (((cell_far (p := ⟨gb182, _, none⟩) NB159_182.out _).trans (((cell_far (p := ⟨gb182, _, none⟩) NB159_182.out _).trans (hHeld.2.2.1)))))))))))))), ((cell_far (p := ⟨gb182, _, none⟩) NB159_182.out _).trans (((cell_far (p := ⟨gb182, _, none⟩) NB159_182.out _).trans (((cell_far (p := ⟨gb182, _, none⟩) NB159_182.out _).trans (((cell_far (p := ⟨gb182, _, none⟩) NB159_182.out _).trans (((cell_far (p := ⟨gb182, _, none⟩) NB159_182.out _).trans (((cell_far (p := ⟨gb182, _, none⟩) NB159_182.out _).trans (((cell_far (p := ⟨gb182, _, none⟩) NB159_182.out _).trans (hHeld.2.2.2.1)))))))))))))), ((cell_far (p := ⟨gb182, _, none⟩) NB159_182.out _).trans (((cell_far (p := ⟨gb182, _, none⟩) NB159_182.out _).trans (((cell_far (p := ⟨gb182, _, none⟩) NB159_182.out _).trans (((cell_far (p := ⟨gb182, _, none⟩) NB159_182.out _).trans (((cell_far (p := ⟨gb182, _, none⟩) NB159_182.out _).trans (((cell_far (p := ⟨gb182, _, none⟩) NB159_182.out _).trans (((cell_far (p := ⟨gb182, _, none⟩) NB159_182.out _).trans (hHeld.2.2.2.2.1)))))))))))))), ((cell_far (p := ⟨gb182, _, none⟩) NB159_182.out _).trans (((cell_far (p := ⟨gb182, _, none⟩) NB159_182.out _).trans (((cell_far (p := ⟨gb182, _, none⟩) NB159_182.out _).trans (((cell_far (p := ⟨gb182, _, none⟩) NB159_182.out _).trans (((cell_far (p := ⟨gb182, _, none⟩) NB159_182.out _).trans (((cell_far (p := ⟨gb182, _, none⟩) NB159_182.out _).trans (((cell_far (p := ⟨gb182, _, none⟩) NB159_182.out _).trans (hHeld.2.2.2.2.2.1)))))))))))))), ((cell_far (p := ⟨gb182, _, none⟩) NB159_182.out _).trans (((cell_far (p := ⟨gb182, _, none⟩) NB159_182.out _).trans (((cell_far (p := ⟨gb182, _, none⟩) NB159_182.out _).trans (((cell_far (p := ⟨gb182, _, none⟩) NB159_182.out _).trans (((cell_far (p := ⟨gb182, _, none⟩) NB159_182.out _).trans (((cell_far (p := ⟨gb182, _, none⟩) NB159_182.out _).trans (((cell_far (p := ⟨gb182, _, none⟩) NB159_182.out _).trans (hHeld.2.2.2.2.2.2.1)))))))))))))), ((cell_far (p := ⟨gb182, _, none⟩) NB160_182.out _).trans (((cell_far (p := ⟨gb182, _, none⟩) NB160_182.out _).trans (((cell_far (p := ⟨gb182, _, none⟩) NB160_182.out _).trans (((cell_far (p := ⟨gb182, _, none⟩) NB160_182.out _).trans (((cell_far (p := ⟨gb182, _, none⟩) NB160_182.out _).trans (((cell_far (p := ⟨gb182, _, none⟩) NB160_182.out _).trans (((cell_far (p := ⟨gb182, _, none⟩) NB160_182.out _).trans (hHeld.2.2.2.2.2.2.2.1)))))))))))))), ((cell_far (p := ⟨gb182, _, none⟩) NB160_182.out _).trans (((cell_far (p := ⟨gb182, _, none⟩) NB160_182.out _).trans (((cell_far (p := ⟨gb182, _, none⟩) NB160_182.out _).trans (((cell_far (p := ⟨gb182, _, none⟩) NB160_182.out _).trans (((cell_far (p := ⟨gb182, _, none⟩) NB160_182.out _).trans (((cell_far (p := ⟨gb182, _, none⟩) NB160_182.out _).trans (((cell_far (p := ⟨gb182, _, none⟩) NB160_182.out _).trans (hHeld.2.2.2.2.2.2.2.2.1)))))))))))))), ((cell_far (p := ⟨gb182, _, none⟩) NB160_182.out _).trans (((cell_far (p := ⟨gb182, _, none⟩) NB160_182.out _).trans (((cell_far (p := ⟨gb182, _, none⟩) NB160_182.out _).trans (((cell_far (p := ⟨gb182, _, none⟩) NB160_182.out _).trans (((cell_far (p := ⟨gb182, _, none⟩) NB160_182.out _).trans (((cell_far (p := ⟨gb182, _, none⟩) NB160_182.out _).trans (((cell_far (p := ⟨gb182, _, none⟩) NB160_182.out _).trans (hHeld.2.2.2.2.2.2.2.2.2.1)))))))))))))), ((cell_far (p := ⟨gb182, _, none⟩) NB160_182.out _).trans (((cell_far (p := ⟨gb182, _, none⟩) NB160_182.out _).trans (((cell_far (p := ⟨gb182, _, none⟩) NB160_182.out _).trans (((cell_far (p := ⟨gb182, _, none⟩) NB160_182.out _).trans (((cell_far (p := ⟨gb182, _, none⟩) NB160_182.out _).trans (((cell_far (p := ⟨gb182, _, none⟩) NB160_182.out _).trans (((cell_far (p := ⟨gb182, _, none⟩) NB160_182.out _).trans (hHeld.2.2.2.2.2.2.2.2.2.2.1)))))))))))))), ((cell_far (p := ⟨gb182, _, none⟩) NB160_182.out _).trans (((cell_far (p := ⟨gb182, _, none⟩) NB160_182.out _).trans (((cell_far (p := ⟨gb182, _, none⟩) NB160_182.out _).trans (((cell_far (p := ⟨gb182, _, none⟩) NB160_182.out _).trans (((cell_far (p := ⟨gb182, _, none⟩) NB160_182.out _).trans (((cell_far (p := ⟨gb182, _, none⟩) NB160_182.out _).trans (((cell_far (p := ⟨gb182, _, none⟩) NB160_182.out _).trans (hHeld.2.2.2.2.2.2.2.2.2.2.2.1)))))))))))))), ((cell_far (p := ⟨gb182, _, none⟩) NB160_182.out _).trans (((cell_far (p := ⟨gb182, _, none⟩) NB160_182.out _).trans (((cell_far (p := ⟨gb182, _, none⟩) NB160_182.out _).trans (((cell_far (p := ⟨gb182, _, none⟩) NB160_182.out _).trans (((cell_far (p := ⟨gb182, _, none⟩) NB160_182.out _).trans (((cell_far (p := ⟨gb182, _, none⟩) NB160_182.out _).trans (((cell_far (p := ⟨gb182, _, none⟩) NB160_182.out _).trans (hHeld.2.2.2.2.2.2.2.2.2.2.2.2.1)))))))))))))), ((cell_far (p := ⟨gb182, _, none⟩) NB160_182.out _).trans (((cell_far (p := ⟨gb182, _, none⟩) NB160_182.out _).trans (((cell_far (p := ⟨gb182, _, none⟩) NB160_182.out _).trans (((cell_far (p := ⟨gb182, _, none⟩) NB160_182.out _).trans (((cell_far (p := ⟨gb182, _, none⟩) NB160_182.out _).trans (((cell_far (p := ⟨gb182, _, none⟩) NB160_182.out _).trans (((cell_far (p := ⟨gb182, _, none⟩) NB160_182.out _).trans (hHeld.2.2.2.2.2.2.2.2.2.2.2.2.2.1)))))))))))))), ((cell_far (p := ⟨gb182, _, none⟩) Z5x6 _).trans (((cell_far (p := ⟨gb182, _, none⟩) Z5x6 _).trans (((cell_far (p := ⟨gb182, _, none⟩) Z5x6 _).trans (((cell_far (p := ⟨gb182, _, none⟩) Z5x6 _).trans (((cell_far (p := ⟨gb182, _, none⟩) Z5x6 _).trans (((cell_far (p := ⟨gb182, _, none⟩) Z5x6 _).trans (((cell_far (p := ⟨gb182, _, none⟩) Z5x6 _).trans (hHeld.2.2.2.2.2.2.2.2.2.2.2.2.2.2.1)))))))))))))), ((cell_far (p := ⟨gb182, _, none⟩) Z5x7 _).trans (((cell_far (p := ⟨gb182, _, none⟩) Z5x7 _).trans (((cell_far (p := ⟨gb182, _, none⟩) Z5x7 _).trans (((cell_far (p := ⟨gb182, _, none⟩) Z5x7 _).trans (((cell_far (p := ⟨gb182, _, none⟩) Z5x7 _).trans (((cell_far (p := ⟨gb182, _, none⟩) Z5x7 _).trans (((cell_far (p := ⟨gb182, _, none⟩) Z5x7 _).trans (hHeld.2.2.2.2.2.2.2.2.2.2.2.2.2.2.2.1)))))))))))))), ((cell_far (p := ⟨gb182, _, none⟩) Z5x8 _).trans (((cell_far (p := ⟨gb182, _, none⟩) Z5x8 _).trans (((cell_far (p := ⟨gb182, _, none⟩) Z5x8 _).trans (((cell_far (p := ⟨gb182, _, none⟩) Z5x8 _).trans (((cell_far (p := ⟨gb182, _, none⟩) Z5x8 _).trans (((cell_far (p := ⟨gb182, _, none⟩) Z5x8 _).trans (((cell_far (p := ⟨gb182, _, none⟩) Z5x8 _).trans (hHeld.2.2.2.2.2.2.2.2.2.2.2.2.2.2.2.2.1)))))))))))))), ((cell_far (p := ⟨gb182, _, none⟩) Z5x9 _).trans (((cell_far (p := ⟨gb182, _, none⟩) Z5x9 _).trans (((cell_far (p := ⟨gb182, _, none⟩) Z5x9 _).trans (((cell_far (p := ⟨gb182, _, none⟩) Z5x9 _).trans (((cell_far (p := ⟨gb182, _, none⟩) Z5x9 _).trans (((cell_far (p := ⟨gb182, _, none⟩) Z5x9 _).trans (((cell_far (p := ⟨gb182, _, none⟩) Z5x9 _).trans (hHeld.2.2.2.2.2.2.2.2.2.2.2.2.2.2.2.2.2))))))))))))))⟩ (fun hHeld => ?_);clear hK K;refine done_ (done_of HT_.out (by kernel_rfl)) ?_;have hnb39 := NB159_160.out;have hnc39 := NB160_159.out;have hnb40 := NB159_161.out;have hnc40 := NB161_159.out;have hnb41 := NB159_182.out;have hnc41 := NB182_159.out;have hcz42_0 : w29.cell? ⟨gb159, 0, none⟩ = some (.int .i64 a0_0) := (blk_cell BK159.out 0).trans rfl;have hcz42_1 : w29.cell? ⟨gb159, 1, none⟩ = some (.int .i64 a0_1) := (blk_cell BK159.out 1).trans rfl;have hcz42_2 : w29.cell? ⟨gb159, 2, none⟩ = some (.int .i64 a0_2) := (blk_cell BK159.out 2).trans rfl;have hcz42_3 : w29.cell? ⟨gb159, 3, none⟩ = some (.int .i64 a0_3) := (blk_cell BK159.out 3).trans rfl;have hcz42_4 : w29.cell? ⟨gb159, 4, none⟩ = some (.slice A0_4 l0_4.length c0_4) := (blk_cell BK159.out 4).trans rfl;have hcz42_5 : w29.cell? ⟨gb159, 5, none⟩ = some (.slice A0_5 l0_5.length c0_5) := (blk_cell BK159.out 5).trans rfl;have hcz42_6 : w29.cell? ⟨gb159, 6, none⟩ = some (.slice (some ad169) l0_6.length c0_6) := (blk_cell BK159.out 6).trans rfl;have hfz42_0 := blk_frozen BK159.out 0;have hfz42_1 := blk_frozen BK159.out 1;have hfz42_2 := blk_frozen BK159.out 2;have hfz42_3 := blk_frozen BK159.out 3;have hfz42_4 := blk_frozen BK159.out 4;have hfz42_5 := blk_frozen BK159.out 5;have hfz42_6 := blk_frozen BK159.out 6
     go_upto_if 54 with (fail)
     go_cut [] (fun wc => ∃ (kq : Nat) (x183002_13 : Int), Aside0 (spec_l3Merge.j0 kq a0_0 a0_1 a0_2 a0_3 l0_4 l0_5 l0_6 a1_0 a1_1 a1_2 a1_3 l1_4 l1_5 l1_6 t162 t163 x183002_13 t165 t166 y179 = some (r1, r2, r3, r4, r5, r6, r7)) ∧ Aside0 (kq ≤ k) ∧ Aside0 (Kd.R (Kd.int .i64) 3 wc w.heap.size (fun k_ => (w.heap.size ≤ k_)) (.slice Ao31 t166.length co31) t166) ∧ Aside0 (Kd.N (Kd.slice 3 (Kd.int .i64)) 23 wc w.heap.size (fun k_ => (w.heap.size ≤ k_) ∧ some k_ ≠ ((.slice Ao31 t166.length co31) : Value).ownBlock ∧ k_ ≠ gb159 ∧ k_ ≠ gb160 ∧ k_ ≠ gb161 ∧ k_ ≠ gb182) (.slice Ao30 y179.length co30) y179) ∧ Aside0 (wc.heap[gb159]? = some (.cells #[.int .i64 a0_0, .int .i64 a0_1, .int .i64 a0_2, .int .i64 a0_3, (.slice A0_4 l0_4.length c0_4), (.slice A0_5 l0_5.length c0_5), (.slice (some ad169) l0_6.length c0_6)] 26 (0, 0))) ∧ Aside0 (wc.heap[gb160]? = some (.cells #[.int .i64 a1_0, .int .i64 a1_1, .int .i64 a1_2, .int .i64 a1_3, (.slice A1_4 l1_4.length c1_4), (.slice A1_5 l1_5.length c1_5), (.slice (some ad170) l1_6.length c1_6)] 26 (0, 0))) ∧ Aside0 (wc.heap[gb161]? = some (.cells #[.int .i64 0, .int .i64 0, .int .i64 0, .int .i64 0, (.slice none 0 0), (.slice none 0 0), (.slice none 0 0)] 26 (0, 0))) ∧ Aside0 (wc.heap[gb182]? = some (.cells #[.int .i64 t162, .int .i64 t163, .int .i64 x183002_13, .int .i64 t165, (.slice Ao31 t166.length co31), (.slice none 0 0), (.slice Ao30 y179.length co30)] 26 (0, 0))) ∧ Aside0 (Below w.heap.size w wc))
     case first =>
      have H := HC14.out;clear HC14
      by_cases c43 : a0_0 = 0
      ·rw [if_pos c43] at H
       have c43b0 : (a0_0 == 0) = true := beq_iff_eq.mpr c43;have c43b1 : (a0_0 != 0) = false := bne_eq_false_iff_eq.mpr c43;clear c43
       (first | rw [c43b0] | (simp only [i64_w, i32_w]; rw [c43b0]) | rw [c43b1] | rw [c43b2] | rw [c43b3] | skip)
       have H' := Aside0.mk H;clear H;have hnb44 := NB160_159.out;have hnc44 := NB159_160.out;have hnb45 := NB160_161.out;have hnc45 := NB161_160.out;have hnb46 := NB160_182.out;have hnc46 := NB182_160.out;have hcz47_0 : w29.cell? ⟨gb160, 0, none⟩ = some (.int .i64 a1_0) := (blk_cell BK160.out 0).trans rfl;have hcz47_1 : w29.cell? ⟨gb160, 1, none⟩ = some (.int .i64 a1_1) := (blk_cell BK160.out 1).trans rfl;have hcz47_2 : w29.cell? ⟨gb160, 2, none⟩ = some (.int .i64 a1_2) := (blk_cell BK160.out 2).trans rfl;have hcz47_3 : w29.cell? ⟨gb160, 3, none⟩ = some (.int .i64 a1_3) := (blk_cell BK160.out 3).trans rfl;have hcz47_4 : w29.cell? ⟨gb160, 4, none⟩ = some (.slice A1_4 l1_4.length c1_4) := (blk_cell BK160.out 4).trans rfl;have hcz47_5 : w29.cell? ⟨gb160, 5, none⟩ = some (.slice A1_5 l1_5.length c1_5) := (blk_cell BK160.out 5).trans rfl;have hcz47_6 : w29.cell? ⟨gb160, 6, none⟩ = some (.slice (some ad170) l1_6.length c1_6) := (blk_cell BK160.out 6).trans rfl;have hfz47_0 := blk_frozen BK160.out 0;have hfz47_1 := blk_frozen BK160.out 1;have hfz47_2 := blk_frozen BK160.out 2;have hfz47_3 := blk_frozen BK160.out 3;have hfz47_4 := blk_frozen BK160.out 4;have hfz47_5 := blk_frozen BK160.out 5;have hfz47_6 := blk_frozen BK160.out 6;have hnb48 := NB182_159.out;have hnc48 := NB159_182.out;have hnb49 := NB182_161.out;have hnc49 := NB161_182.out;have hcz50_0 : w29.cell? ⟨gb182, 0, none⟩ = some (.int .i64 0) := (blk_cell BK182.out 0).trans rfl;have hcz50_1 : w29.cell? ⟨gb182, 1, none⟩ = some (.int .i64 0) := (blk_cell BK182.out 1).trans rfl;have hcz50_2 : w29.cell? ⟨gb182, 2, none⟩ = some (.int .i64 0) := (blk_cell BK182.out 2).trans rfl;have hcz50_3 : w29.cell? ⟨gb182, 3, none⟩ = some (.int .i64 0) := (blk_cell BK182.out 3).trans rfl;have hcz50_4 : w29.cell? ⟨gb182, 4, none⟩ = some (.slice none 0 0) := (blk_cell BK182.out 4).trans rfl;have hcz50_5 : w29.cell? ⟨gb182, 5, none⟩ = some (.slice none 0 0) := (blk_cell BK182.out 5).trans rfl;have hcz50_6 : w29.cell? ⟨gb182, 6, none⟩ = some (.slice none 0 0) := (blk_cell BK182.out 6).trans rfl;have hfz50_0 := blk_frozen BK182.out 0;have hfz50_1 := blk_frozen BK182.out 1;have hfz50_2 := blk_frozen BK182.out 2;have hfz50_3 := blk_frozen BK182.out 3;have hfz50_4 := blk_frozen BK182.out 4;have hfz50_5 := blk_frozen BK182.out 5;have hfz50_6 := blk_frozen BK182.out 6
       go_wp2
       (first | go_meet | (refine Met.intro ?_; go_step; (repeat apply Exists.intro); refine ⟨?rel, ?eqs⟩; case eqs => ((try rw [show (a0_0 == 0) = true from by assumption]); (try rw [show (a0_0 == 0) = false from by assumption]); (try rfl))))
       case rel => exact ⟨_, (a1_2), H', ⟨by first | omega | exact Nat.le_refl _⟩, ⟨by (with_reducible repeat (first | apply Kd.R_alloc | apply Kd.R_drewN | apply Kd.R_drew)); exact Kd.R_mono (Kd.R_far (p := ⟨gb182, 2, none⟩) (Kd.R_far (p := ⟨gb182, 6, none⟩) (Kd.R_far (p := ⟨gb182, 5, none⟩) (Kd.R_far (p := ⟨gb182, 4, none⟩) (Kd.R_far (p := ⟨gb182, 3, none⟩) (Kd.R_far (p := ⟨gb182, 2, none⟩) (Kd.R_far (p := ⟨gb182, 1, none⟩) (Kd.R_far (p := ⟨gb182, 0, none⟩) (Kd.R_types HO168.out BK182.out (by decide)) (fun _ hk => hk.2) (.int .i64 t162)) (fun _ hk => hk.2) (.int .i64 t163)) (fun _ hk => hk.2) (.int .i64 t164)) (fun _ hk => hk.2) (.int .i64 t165)) (fun _ hk => hk.2) (.slice Ao31 t166.length co31)) (fun _ hk => hk.2) (.slice none 0 0)) (fun _ hk => hk.2) (.slice Ao30 y179.length co30)) (fun _ hk => hk.2) (.int .i64 a1_2)) (fun _ hk => hk.1)⟩, ⟨by (with_reducible repeat (first | apply Kd.N_alloc | apply Kd.N_drewN | apply Kd.N_drew)); exact Kd.N_mono (Kd.N_far (p := ⟨gb182, 2, none⟩) (Kd.N_far (p := ⟨gb182, 6, none⟩) (Kd.N_far (p := ⟨gb182, 5, none⟩) (Kd.N_far (p := ⟨gb182, 4, none⟩) (Kd.N_far (p := ⟨gb182, 3, none⟩) (Kd.N_far (p := ⟨gb182, 2, none⟩) (Kd.N_far (p := ⟨gb182, 1, none⟩) (Kd.N_far (p := ⟨gb182, 0, none⟩) (Kd.N_mono HO181.out (fun k_ hk => (⟨hk, hk.2.2.2.2.2⟩ : _ ∧ k_ ≠ gb182))) (fun _ hk => hk.2) (.int .i64 t162)) (fun _ hk => hk.2) (.int .i64 t163)) (fun _ hk => hk.2) (.int .i64 t164)) (fun _ hk => hk.2) (.int .i64 t165)) (fun _ hk => hk.2) (.slice Ao31 t166.length co31)) (fun _ hk => hk.2) (.slice none 0 0)) (fun _ hk => hk.2) (.slice Ao30 y179.length co30)) (fun _ hk => hk.2) (.int .i64 a1_2)) (fun _ hk => ⟨hk.1.1, ⟨hk.1.2.1, ⟨hk.1.2.2.1, ⟨hk.1.2.2.2.1, ⟨hk.1.2.2.2.2.1, hk.1.2.2.2.2.2⟩⟩⟩⟩⟩)⟩, ⟨by (with_reducible repeat (first | refine blk_drewN ?_ _ | refine blk_drew ?_ | refine blk_alloc ?_ _)); refine blk_far ?_ NB159_182.out _; (with_reducible repeat (first | refine blk_drewN ?_ _ | refine blk_drew ?_ | refine blk_alloc ?_ _)); refine blk_far ?_ NB159_182.out _; (with_reducible repeat (first | refine blk_drewN ?_ _ | refine blk_drew ?_ | refine blk_alloc ?_ _)); refine blk_far ?_ NB159_182.out _; (with_reducible repeat (first | refine blk_drewN ?_ _ | refine blk_drew ?_ | refine blk_alloc ?_ _)); refine blk_far ?_ NB159_182.out _; (with_reducible repeat (first | refine blk_drewN ?_ _ | refine blk_drew ?_ | refine blk_alloc ?_ _)); refine blk_far ?_ NB159_182.out _; (with_reducible repeat (first | refine blk_drewN ?_ _ | refine blk_drew ?_ | refine blk_alloc ?_ _)); refine blk_far ?_ NB159_182.out _; (with_reducible repeat (first | refine blk_drewN ?_ _ | refine blk_drew ?_ | refine blk_alloc ?_ _)); refine blk_far ?_ NB159_182.out _; (with_reducible repeat (first | refine blk_drewN ?_ _ | refine blk_drew ?_ | refine blk_alloc ?_ _)); refine blk_far ?_ NB159_182.out _; (with_reducible repeat (first | refine blk_drewN ?_ _ | refine blk_drew ?_ | refine blk_alloc ?_ _)); exact BK159.out⟩, ⟨by (with_reducible repeat (first | refine blk_drewN ?_ _ | refine blk_drew ?_ | refine blk_alloc ?_ _)); refine blk_far ?_ NB160_182.out _; (with_reducible repeat (first | refine blk_drewN ?_ _ | refine blk_drew ?_ | refine blk_alloc ?_ _)); refine blk_far ?_ NB160_182.out _; (with_reducible repeat (first | refine blk_drewN ?_ _ | refine blk_drew ?_ | refine blk_alloc ?_ _)); refine blk_far ?_ NB160_182.out _; (with_reducible repeat (first | refine blk_drewN ?_ _ | refine blk_drew ?_ | refine blk_alloc ?_ _)); refine blk_far ?_ NB160_182.out _; (with_reducible repeat (first | refine blk_drewN ?_ _ | refine blk_drew ?_ | refine blk_alloc ?_ _)); refine blk_far ?_ NB160_182.out _; (with_reducible repeat (first | refine blk_drewN ?_ _ | refine blk_drew ?_ | refine blk_alloc ?_ _)); refine blk_far ?_ NB160_182.out _; (with_reducible repeat (first | refine blk_drewN ?_ _ | refine blk_drew ?_ | refine blk_alloc ?_ _)); refine blk_far ?_ NB160_182.out _; (with_reducible repeat (first | refine blk_drewN ?_ _ | refine blk_drew ?_ | refine blk_alloc ?_ _)); refine blk_far ?_ NB160_182.out _; (with_reducible repeat (first | refine blk_drewN ?_ _ | refine blk_drew ?_ | refine blk_alloc ?_ _)); exact BK160.out⟩, ⟨by (with_reducible repeat (first | refine blk_drewN ?_ _ | refine blk_drew ?_ | refine blk_alloc ?_ _)); refine blk_far ?_ NB161_182.out _; (with_reducible repeat (first | refine blk_drewN ?_ _ | refine blk_drew ?_ | refine blk_alloc ?_ _)); refine blk_far ?_ NB161_182.out _; (with_reducible repeat (first | refine blk_drewN ?_ _ | refine blk_drew ?_ | refine blk_alloc ?_ _)); refine blk_far ?_ NB161_182.out _; (with_reducible repeat (first | refine blk_drewN ?_ _ | refine blk_drew ?_ | refine blk_alloc ?_ _)); refine blk_far ?_ NB161_182.out _; (with_reducible repeat (first | refine blk_drewN ?_ _ | refine blk_drew ?_ | refine blk_alloc ?_ _)); refine blk_far ?_ NB161_182.out _; (with_reducible repeat (first | refine blk_drewN ?_ _ | refine blk_drew ?_ | refine blk_alloc ?_ _)); refine blk_far ?_ NB161_182.out _; (with_reducible repeat (first | refine blk_drewN ?_ _ | refine blk_drew ?_ | refine blk_alloc ?_ _)); refine blk_far ?_ NB161_182.out _; (with_reducible repeat (first | refine blk_drewN ?_ _ | refine blk_drew ?_ | refine blk_alloc ?_ _)); refine blk_far ?_ NB161_182.out _; (with_reducible repeat (first | refine blk_drewN ?_ _ | refine blk_drew ?_ | refine blk_alloc ?_ _)); exact BK161.out⟩, ⟨by (with_reducible repeat (first | refine blk_drewN ?_ _ | refine blk_drew ?_ | refine blk_alloc ?_ _)); refine blk_put (cs := #[.int .i64 t162, .int .i64 t163, .int .i64 t164, .int .i64 t165, .slice Ao31 t166.length co31, .slice none 0 0, .slice Ao30 y179.length co30]) ?_ 2 _ rfl; (with_reducible repeat (first | refine blk_drewN ?_ _ | refine blk_drew ?_ | refine blk_alloc ?_ _)); refine blk_put (cs := #[.int .i64 t162, .int .i64 t163, .int .i64 t164, .int .i64 t165, .slice Ao31 t166.length co31, .slice none 0 0, .slice none 0 0]) ?_ 6 _ rfl; (with_reducible repeat (first | refine blk_drewN ?_ _ | refine blk_drew ?_ | refine blk_alloc ?_ _)); refine blk_put (cs := #[.int .i64 t162, .int .i64 t163, .int .i64 t164, .int .i64 t165, .slice Ao31 t166.length co31, .slice none 0 0, .slice none 0 0]) ?_ 5 _ rfl; (with_reducible repeat (first | refine blk_drewN ?_ _ | refine blk_drew ?_ | refine blk_alloc ?_ _)); refine blk_put (cs := #[.int .i64 t162, .int .i64 t163, .int .i64 t164, .int .i64 t165, .slice none 0 0, .slice none 0 0, .slice none 0 0]) ?_ 4 _ rfl; (with_reducible repeat (first | refine blk_drewN ?_ _ | refine blk_drew ?_ | refine blk_alloc ?_ _)); refine blk_put (cs := #[.int .i64 t162, .int .i64 t163, .int .i64 t164, .int .i64 0, .slice none 0 0, .slice none 0 0, .slice none 0 0]) ?_ 3 _ rfl; (with_reducible repeat (first | refine blk_drewN ?_ _ | refine blk_drew ?_ | refine blk_alloc ?_ _)); refine blk_put (cs := #[.int .i64 t162, .int .i64 t163, .int .i64 0, .int .i64 0, .slice none 0 0, .slice none 0 0, .slice none 0 0]) ?_ 2 _ rfl; (with_reducible repeat (first | refine blk_drewN ?_ _ | refine blk_drew ?_ | refine blk_alloc ?_ _)); refine blk_put (cs := #[.int .i64 t162, .int .i64 0, .int .i64 0, .int .i64 0, .slice none 0 0, .slice none 0 0, .slice none 0 0]) ?_ 1 _ rfl; (with_reducible repeat (first | refine blk_drewN ?_ _ | refine blk_drew ?_ | refine blk_alloc ?_ _)); refine blk_put (cs := #[.int .i64 0, .int .i64 0, .int .i64 0, .int .i64 0, .slice none 0 0, .slice none 0 0, .slice none 0 0]) ?_ 0 _ rfl; (with_reducible repeat (first | refine blk_drewN ?_ _ | refine blk_drew ?_ | refine blk_alloc ?_ _)); exact BK182.out⟩, ⟨Z5x1⟩⟩
      ·rw [if_neg c43] at H
       have c43b0 : (a0_0 == 0) = false := beq_eq_false_iff_ne.mpr c43;have c43b1 : (a0_0 != 0) = true := bne_iff_ne.mpr c43
       (first | rw [c43b0] | (simp only [i64_w, i32_w]; rw [c43b0]) | rw [c43b1] | rw [c43b2] | rw [c43b3] | skip)
       have H' := Aside0.mk H;clear H
       go_wp2
       (first | go_meet | (refine Met.intro ?_; go_step; (repeat apply Exists.intro); refine ⟨?rel, ?eqs⟩; case eqs => ((try rw [show (a0_0 == 0) = true from by assumption]); (try rw [show (a0_0 == 0) = false from by assumption]); (try rfl))))
       case rel => exact ⟨_, (t164), H', ⟨by first | omega | exact Nat.le_refl _⟩, ⟨by (with_reducible repeat (first | apply Kd.R_alloc | apply Kd.R_drewN | apply Kd.R_drew)); exact Kd.R_mono (Kd.R_far (p := ⟨gb182, 6, none⟩) (Kd.R_far (p := ⟨gb182, 5, none⟩) (Kd.R_far (p := ⟨gb182, 4, none⟩) (Kd.R_far (p := ⟨gb182, 3, none⟩) (Kd.R_far (p := ⟨gb182, 2, none⟩) (Kd.R_far (p := ⟨gb182, 1, none⟩) (Kd.R_far (p := ⟨gb182, 0, none⟩) (Kd.R_types HO168.out BK182.out (by decide)) (fun _ hk => hk.2) (.int .i64 t162)) (fun _ hk => hk.2) (.int .i64 t163)) (fun _ hk => hk.2) (.int .i64 t164)) (fun _ hk => hk.2) (.int .i64 t165)) (fun _ hk => hk.2) (.slice Ao31 t166.length co31)) (fun _ hk => hk.2) (.slice none 0 0)) (fun _ hk => hk.2) (.slice Ao30 y179.length co30)) (fun _ hk => hk.1)⟩, ⟨by (with_reducible repeat (first | apply Kd.N_alloc | apply Kd.N_drewN | apply Kd.N_drew)); exact Kd.N_mono (Kd.N_far (p := ⟨gb182, 6, none⟩) (Kd.N_far (p := ⟨gb182, 5, none⟩) (Kd.N_far (p := ⟨gb182, 4, none⟩) (Kd.N_far (p := ⟨gb182, 3, none⟩) (Kd.N_far (p := ⟨gb182, 2, none⟩) (Kd.N_far (p := ⟨gb182, 1, none⟩) (Kd.N_far (p := ⟨gb182, 0, none⟩) (Kd.N_mono HO181.out (fun k_ hk => (⟨hk, hk.2.2.2.2.2⟩ : _ ∧ k_ ≠ gb182))) (fun _ hk => hk.2) (.int .i64 t162)) (fun _ hk => hk.2) (.int .i64 t163)) (fun _ hk => hk.2) (.int .i64 t164)) (fun _ hk => hk.2) (.int .i64 t165)) (fun _ hk => hk.2) (.slice Ao31 t166.length co31)) (fun _ hk => hk.2) (.slice none 0 0)) (fun _ hk => hk.2) (.slice Ao30 y179.length co30)) (fun _ hk => ⟨hk.1.1, ⟨hk.1.2.1, ⟨hk.1.2.2.1, ⟨hk.1.2.2.2.1, ⟨hk.1.2.2.2.2.1, hk.1.2.2.2.2.2⟩⟩⟩⟩⟩)⟩, ⟨by (with_reducible repeat (first | refine blk_drewN ?_ _ | refine blk_drew ?_ | refine blk_alloc ?_ _)); refine blk_far ?_ NB159_182.out _; (with_reducible repeat (first | refine blk_drewN ?_ _ | refine blk_drew ?_ | refine blk_alloc ?_ _)); refine blk_far ?_ NB159_182.out _; (with_reducible repeat (first | refine blk_drewN ?_ _ | refine blk_drew ?_ | refine blk_alloc ?_ _)); refine blk_far ?_ NB159_182.out _; (with_reducible repeat (first | refine blk_drewN ?_ _ | refine blk_drew ?_ | refine blk_alloc ?_ _)); refine blk_far ?_ NB159_182.out _; (with_reducible repeat (first | refine blk_drewN ?_ _ | refine blk_drew ?_ | refine blk_alloc ?_ _)); refine blk_far ?_ NB159_182.out _; (with_reducible repeat (first | refine blk_drewN ?_ _ | refine blk_drew ?_ | refine blk_alloc ?_ _)); refine blk_far ?_ NB159_182.out _; (with_reducible repeat (first | refine blk_drewN ?_ _ | refine blk_drew ?_ | refine blk_alloc ?_ _)); refine blk_far ?_ NB159_182.out _; (with_reducible repeat (first | refine blk_drewN ?_ _ | refine blk_drew ?_ | refine blk_alloc ?_ _)); exact BK159.out⟩, ⟨by (with_reducible repeat (first | refine blk_drewN ?_ _ | refine blk_drew ?_ | refine blk_alloc ?_ _)); refine blk_far ?_ NB160_182.out _; (with_reducible repeat (first | refine blk_drewN ?_ _ | refine blk_drew ?_ | refine blk_alloc ?_ _)); refine blk_far ?_ NB160_182.out _; (with_reducible repeat (first | refine blk_drewN ?_ _ | refine blk_drew ?_ | refine blk_alloc ?_ _)); refine blk_far ?_ NB160_182.out _; (with_reducible repeat (first | refine blk_drewN ?_ _ | refine blk_drew ?_ | refine blk_alloc ?_ _)); refine blk_far ?_ NB160_182.out _; (with_reducible repeat (first | refine blk_drewN ?_ _ | refine blk_drew ?_ | refine blk_alloc ?_ _)); refine blk_far ?_ NB160_182.out _; (with_reducible repeat (first | refine blk_drewN ?_ _ | refine blk_drew ?_ | refine blk_alloc ?_ _)); refine blk_far ?_ NB160_182.out _; (with_reducible repeat (first | refine blk_drewN ?_ _ | refine blk_drew ?_ | refine blk_alloc ?_ _)); refine blk_far ?_ NB160_182.out _; (with_reducible repeat (first | refine blk_drewN ?_ _ | refine blk_drew ?_ | refine blk_alloc ?_ _)); exact BK160.out⟩, ⟨by (with_reducible repeat (first | refine blk_drewN ?_ _ | refine blk_drew ?_ | refine blk_alloc ?_ _)); refine blk_far ?_ NB161_182.out _; (with_reducible repeat (first | refine blk_drewN ?_ _ | refine blk_drew ?_ | refine blk_alloc ?_ _)); refine blk_far ?_ NB161_182.out _; (with_reducible repeat (first | refine blk_drewN ?_ _ | refine blk_drew ?_ | refine blk_alloc ?_ _)); refine blk_far ?_ NB161_182.out _; (with_reducible repeat (first | refine blk_drewN ?_ _ | refine blk_drew ?_ | refine blk_alloc ?_ _)); refine blk_far ?_ NB161_182.out _; (with_reducible repeat (first | refine blk_drewN ?_ _ | refine blk_drew ?_ | refine blk_alloc ?_ _)); refine blk_far ?_ NB161_182.out _; (with_reducible repeat (first | refine blk_drewN ?_ _ | refine blk_drew ?_ | refine blk_alloc ?_ _)); refine blk_far ?_ NB161_182.out _; (with_reducible repeat (first | refine blk_drewN ?_ _ | refine blk_drew ?_ | refine blk_alloc ?_ _)); refine blk_far ?_ NB161_182.out _; (with_reducible repeat (first | refine blk_drewN ?_ _ | refine blk_drew ?_ | refine blk_alloc ?_ _)); exact BK161.out⟩, ⟨by (with_reducible repeat (first | refine blk_drewN ?_ _ | refine blk_drew ?_ | refine blk_alloc ?_ _)); refine blk_put (cs := #[.int .i64 t162, .int .i64 t163, .int .i64 t164, .int .i64 t165, .slice Ao31 t166.length co31, .slice none 0 0, .slice none 0 0]) ?_ 6 _ rfl; (with_reducible repeat (first | refine blk_drewN ?_ _ | refine blk_drew ?_ | refine blk_alloc ?_ _)); refine blk_put (cs := #[.int .i64 t162, .int .i64 t163, .int .i64 t164, .int .i64 t165, .slice Ao31 t166.length co31, .slice none 0 0, .slice none 0 0]) ?_ 5 _ rfl; (with_reducible repeat (first | refine blk_drewN ?_ _ | refine blk_drew ?_ | refine blk_alloc ?_ _)); refine blk_put (cs := #[.int .i64 t162, .int .i64 t163, .int .i64 t164, .int .i64 t165, .slice none 0 0, .slice none 0 0, .slice none 0 0]) ?_ 4 _ rfl; (with_reducible repeat (first | refine blk_drewN ?_ _ | refine blk_drew ?_ | refine blk_alloc ?_ _)); refine blk_put (cs := #[.int .i64 t162, .int .i64 t163, .int .i64 t164, .int .i64 0, .slice none 0 0, .slice none 0 0, .slice none 0 0]) ?_ 3 _ rfl; (with_reducible repeat (first | refine blk_drewN ?_ _ | refine blk_drew ?_ | refine blk_alloc ?_ _)); refine blk_put (cs := #[.int .i64 t162, .int .i64 t163, .int .i64 0, .int .i64 0, .slice none 0 0, .slice none 0 0, .slice none 0 0]) ?_ 2 _ rfl; (with_reducible repeat (first | refine blk_drewN ?_ _ | refine blk_drew ?_ | refine blk_alloc ?_ _)); refine blk_put (cs := #[.int .i64 t162, .int .i64 0, .int .i64 0, .int .i64 0, .slice none 0 0, .slice none 0 0, .slice none 0 0]) ?_ 1 _ rfl; (with_reducible repeat (first | refine blk_drewN ?_ _ | refine blk_drew ?_ | refine blk_alloc ?_ _)); refine blk_put (cs := #[.int .i64 0, .int .i64 0, .int .i64 0, .int .i64 0, .slice none 0 0, .slice none 0 0, .slice none 0 0]) ?_ 0 _ rfl; (with_reducible repeat (first | refine blk_drewN ?_ _ | refine blk_drew ?_ | refine blk_alloc ?_ _)); exact BK182.out⟩, ⟨Z5x1⟩⟩
     case rest =>
      clear HC14
      try clear c1
      try clear p2
      try clear c3
      try clear c4
      try clear c8
      try clear c16
      try clear c17
      try clear c39
      try clear c40
      try clear c41
      try clear c43
      try clear c43b0
      try clear c43b1
      try clear c43b2
      try clear c44
      try clear c45
      try clear c46
      try clear c48
      try clear c49
      try clear hcz42_0
      try clear hcz42_1
      try clear hcz42_2
      try clear hcz42_3
      try clear hcz42_4
      try clear hcz42_5
      try clear hcz42_6
      try clear hcz47_0
      try clear hcz47_1
      try clear hcz47_2
      try clear hcz47_3
      try clear hcz47_4
      try clear hcz47_5
      try clear hcz47_6
      try clear hcz50_0
      try clear hcz50_1
      try clear hcz50_2
      try clear hcz50_3
      try clear hcz50_4
      try clear hcz50_5
      try clear hcz50_6
      try clear hfz42_0
      try clear hfz42_1
      try clear hfz42_2
      try clear hfz42_3
      try clear hfz42_4
      try clear hfz42_5
      try clear hfz42_6
      try clear hfz47_0
      try clear hfz47_1
      try clear hfz47_2
      try clear hfz47_3
      try clear hfz47_4
      try clear hfz47_5
      try clear hfz47_6
      try clear hfz50_0
      try clear hfz50_1
      try clear hfz50_2
      try clear hfz50_3
      try clear hfz50_4
      try clear hfz50_5
      try clear hfz50_6
      obtain ⟨kq, x183002_13, HA, HJ13, HO_183004, HO_183006, BK159, BK160, BK161, BK182, HB⟩ := hcut
      cases kq with
      | zero => exact absurd HA.out (by simp [spec_l3Merge.j0])
      | succ kj13 =>
       have H := HA.out;clear HA;simp only [spec_l3Merge.j0] at H;have HC51 := Aside0.mk H;clear H;have hnb52 := NB160_159.out;have hnc52 := NB159_160.out;have hnb53 := NB160_161.out;have hnc53 := NB161_160.out;have hnb54 := NB160_182.out;have hnc54 := NB182_160.out;have hcz55_0 : wc.cell? ⟨gb160, 0, none⟩ = some (.int .i64 a1_0) := (blk_cell BK160.out 0).trans rfl;have hcz55_1 : wc.cell? ⟨gb160, 1, none⟩ = some (.int .i64 a1_1) := (blk_cell BK160.out 1).trans rfl;have hcz55_2 : wc.cell? ⟨gb160, 2, none⟩ = some (.int .i64 a1_2) := (blk_cell BK160.out 2).trans rfl;have hcz55_3 : wc.cell? ⟨gb160, 3, none⟩ = some (.int .i64 a1_3) := (blk_cell BK160.out 3).trans rfl;have hcz55_4 : wc.cell? ⟨gb160, 4, none⟩ = some (.slice A1_4 l1_4.length c1_4) := (blk_cell BK160.out 4).trans rfl;have hcz55_5 : wc.cell? ⟨gb160, 5, none⟩ = some (.slice A1_5 l1_5.length c1_5) := (blk_cell BK160.out 5).trans rfl;have hcz55_6 : wc.cell? ⟨gb160, 6, none⟩ = some (.slice (some ad170) l1_6.length c1_6) := (blk_cell BK160.out 6).trans rfl;have hfz55_0 := blk_frozen BK160.out 0;have hfz55_1 := blk_frozen BK160.out 1;have hfz55_2 := blk_frozen BK160.out 2;have hfz55_3 := blk_frozen BK160.out 3;have hfz55_4 := blk_frozen BK160.out 4;have hfz55_5 := blk_frozen BK160.out 5;have hfz55_6 := blk_frozen BK160.out 6
       go_upto_if 60 with (fail)
       go_cut [] (fun wc => ∃ (kq : Nat) (x183002_50 : Int), Aside0 (spec_l3Merge.j1 kq a0_0 a0_1 a0_2 a0_3 l0_4 l0_5 l0_6 a1_0 a1_1 a1_2 a1_3 l1_4 l1_5 l1_6 t162 t163 x183002_50 t165 t166 y179 = some (r1, r2, r3, r4, r5, r6, r7)) ∧ Aside0 (kq ≤ kj13) ∧ Aside0 (Kd.R (Kd.int .i64) 3 wc w.heap.size (fun k_ => (w.heap.size ≤ k_)) (.slice Ao31 t166.length co31) t166) ∧ Aside0 (Kd.N (Kd.slice 3 (Kd.int .i64)) 23 wc w.heap.size (fun k_ => (w.heap.size ≤ k_) ∧ some k_ ≠ ((.slice Ao31 t166.length co31) : Value).ownBlock ∧ k_ ≠ gb159 ∧ k_ ≠ gb160 ∧ k_ ≠ gb161 ∧ k_ ≠ gb182) (.slice Ao30 y179.length co30) y179) ∧ Aside0 (wc.heap[gb159]? = some (.cells #[.int .i64 a0_0, .int .i64 a0_1, .int .i64 a0_2, .int .i64 a0_3, (.slice A0_4 l0_4.length c0_4), (.slice A0_5 l0_5.length c0_5), (.slice (some ad169) l0_6.length c0_6)] 26 (0, 0))) ∧ Aside0 (wc.heap[gb160]? = some (.cells #[.int .i64 a1_0, .int .i64 a1_1, .int .i64 a1_2, .int .i64 a1_3, (.slice A1_4 l1_4.length c1_4), (.slice A1_5 l1_5.length c1_5), (.slice (some ad170) l1_6.length c1_6)] 26 (0, 0))) ∧ Aside0 (wc.heap[gb161]? = some (.cells #[.int .i64 0, .int .i64 0, .int .i64 0, .int .i64 0, (.slice none 0 0), (.slice none 0 0), (.slice none 0 0)] 26 (0, 0))) ∧ Aside0 (wc.heap[gb182]? = some (.cells #[.int .i64 t162, .int .i64 t163, .int .i64 x183002_50, .int .i64 t165, (.slice Ao31 t166.length co31), (.slice none 0 0), (.slice Ao30 y179.length co30)] 26 (0, 0))) ∧ Aside0 (Below w.heap.size w wc))
       case first =>
        have H := HC51.out;clear HC51
        by_cases c56 : a1_0 = 0
        ·rw [if_pos c56] at H
         have c56b0 : (a1_0 == 0) = true := beq_iff_eq.mpr c56;have c56b1 : (a1_0 != 0) = false := bne_eq_false_iff_eq.mpr c56;clear c56
         (first | rw [c56b0] | (simp only [i64_w, i32_w]; rw [c56b0]) | rw [c56b1] | rw [c56b2] | rw [c56b3] | skip)
         have H' := Aside0.mk H;clear H;have hnb57 := NB159_160.out;have hnc57 := NB160_159.out;have hnb58 := NB159_161.out;have hnc58 := NB161_159.out;have hnb59 := NB159_182.out;have hnc59 := NB182_159.out;have hcz60_0 : wc.cell? ⟨gb159, 0, none⟩ = some (.int .i64 a0_0) := (blk_cell BK159.out 0).trans rfl;have hcz60_1 : wc.cell? ⟨gb159, 1, none⟩ = some (.int .i64 a0_1) := (blk_cell BK159.out 1).trans rfl;have hcz60_2 : wc.cell? ⟨gb159, 2, none⟩ = some (.int .i64 a0_2) := (blk_cell BK159.out 2).trans rfl;have hcz60_3 : wc.cell? ⟨gb159, 3, none⟩ = some (.int .i64 a0_3) := (blk_cell BK159.out 3).trans rfl;have hcz60_4 : wc.cell? ⟨gb159, 4, none⟩ = some (.slice A0_4 l0_4.length c0_4) := (blk_cell BK159.out 4).trans rfl;have hcz60_5 : wc.cell? ⟨gb159, 5, none⟩ = some (.slice A0_5 l0_5.length c0_5) := (blk_cell BK159.out 5).trans rfl;have hcz60_6 : wc.cell? ⟨gb159, 6, none⟩ = some (.slice (some ad169) l0_6.length c0_6) := (blk_cell BK159.out 6).trans rfl;have hfz60_0 := blk_frozen BK159.out 0;have hfz60_1 := blk_frozen BK159.out 1;have hfz60_2 := blk_frozen BK159.out 2;have hfz60_3 := blk_frozen BK159.out 3;have hfz60_4 := blk_frozen BK159.out 4;have hfz60_5 := blk_frozen BK159.out 5;have hfz60_6 := blk_frozen BK159.out 6;have hnb61 := NB182_160.out;have hnc61 := NB160_182.out;have hnb62 := NB182_161.out;have hnc62 := NB161_182.out;have hcz63_0 : wc.cell? ⟨gb182, 0, none⟩ = some (.int .i64 t162) := (blk_cell BK182.out 0).trans rfl;have hcz63_1 : wc.cell? ⟨gb182, 1, none⟩ = some (.int .i64 t163) := (blk_cell BK182.out 1).trans rfl;have hcz63_2 : wc.cell? ⟨gb182, 2, none⟩ = some (.int .i64 x183002_13) := (blk_cell BK182.out 2).trans rfl;have hcz63_3 : wc.cell? ⟨gb182, 3, none⟩ = some (.int .i64 t165) := (blk_cell BK182.out 3).trans rfl;have hcz63_4 : wc.cell? ⟨gb182, 4, none⟩ = some (.slice Ao31 t166.length co31) := (blk_cell BK182.out 4).trans rfl;have hcz63_5 : wc.cell? ⟨gb182, 5, none⟩ = some (.slice none 0 0) := (blk_cell BK182.out 5).trans rfl;have hcz63_6 : wc.cell? ⟨gb182, 6, none⟩ = some (.slice Ao30 y179.length co30) := (blk_cell BK182.out 6).trans rfl;have hfz63_0 := blk_frozen BK182.out 0;have hfz63_1 := blk_frozen BK182.out 1;have hfz63_2 := blk_frozen BK182.out 2;have hfz63_3 := blk_frozen BK182.out 3;have hfz63_4 := blk_frozen BK182.out 4;have hfz63_5 := blk_frozen BK182.out 5;have hfz63_6 := blk_frozen BK182.out 6
         go_wp2
         (first | go_meet | (refine Met.intro ?_; go_step; (repeat apply Exists.intro); refine ⟨?rel, ?eqs⟩; case eqs => ((try rw [show (a0_0 == 0) = true from by assumption]); (try rw [show (a0_0 == 0) = false from by assumption]); (try rw [show (a1_0 == 0) = true from by assumption]); (try rw [show (a1_0 == 0) = false from by assumption]); (try rfl))))
         case rel => exact ⟨_, (a0_2), H', ⟨by have := HJ13.out; first | omega | exact Nat.le_refl _⟩, ⟨by (with_reducible repeat (first | apply Kd.R_alloc | apply Kd.R_drewN | apply Kd.R_drew)); exact Kd.R_mono (Kd.R_far (p := ⟨gb182, 2, none⟩) (Kd.R_types HO_183004.out BK182.out (by decide)) (fun _ hk => hk.2) (.int .i64 a0_2)) (fun _ hk => hk.1)⟩, ⟨by (with_reducible repeat (first | apply Kd.N_alloc | apply Kd.N_drewN | apply Kd.N_drew)); exact Kd.N_mono (Kd.N_far (p := ⟨gb182, 2, none⟩) (Kd.N_mono HO_183006.out (fun k_ hk => (⟨hk, hk.2.2.2.2.2⟩ : _ ∧ k_ ≠ gb182))) (fun _ hk => hk.2) (.int .i64 a0_2)) (fun _ hk => ⟨hk.1.1, ⟨hk.1.2.1, ⟨hk.1.2.2.1, ⟨hk.1.2.2.2.1, ⟨hk.1.2.2.2.2.1, hk.1.2.2.2.2.2⟩⟩⟩⟩⟩)⟩, ⟨Z5x26⟩, ⟨Z5x27⟩, ⟨Z5x28⟩, ⟨by (with_reducible repeat (first | refine blk_drewN ?_ _ | refine blk_drew ?_ | refine blk_alloc ?_ _)); refine blk_put (cs := #[.int .i64 t162, .int .i64 t163, .int .i64 x183002_13, .int .i64 t165, .slice Ao31 t166.length co31, .slice none 0 0, .slice Ao30 y179.length co30]) ?_ 2 _ rfl; (with_reducible repeat (first | refine blk_drewN ?_ _ | refine blk_drew ?_ | refine blk_alloc ?_ _)); exact BK182.out⟩, ⟨Z5x1⟩⟩
        ·rw [if_neg c56] at H
         have c56b0 : (a1_0 == 0) = false := beq_eq_false_iff_ne.mpr c56;have c56b1 : (a1_0 != 0) = true := bne_iff_ne.mpr c56
         (first | rw [c56b0] | (simp only [i64_w, i32_w]; rw [c56b0]) | rw [c56b1] | rw [c56b2] | rw [c56b3] | skip)
         have H' := Aside0.mk H;clear H
         go_wp2
         (first | go_meet | (refine Met.intro ?_; go_step; (repeat apply Exists.intro); refine ⟨?rel, ?eqs⟩; case eqs => ((try rw [show (a0_0 == 0) = true from by assumption]); (try rw [show (a0_0 == 0) = false from by assumption]); (try rw [show (a1_0 == 0) = true from by assumption]); (try rw [show (a1_0 == 0) = false from by assumption]); (try rfl))))
         case rel => exact ⟨_, (x183002_13), H', ⟨by have := HJ13.out; first | omega | exact Nat.le_refl _⟩, ⟨by (with_reducible repeat (first | apply Kd.R_alloc | apply Kd.R_drewN | apply Kd.R_drew)); exact HO_183004.out⟩, ⟨by (with_reducible repeat (first | apply Kd.N_alloc | apply Kd.N_drewN | apply Kd.N_drew)); exact HO_183006.out⟩, ⟨Z5x2⟩, ⟨Z5x3⟩, ⟨Z5x4⟩, ⟨Z5x10⟩, ⟨Z5x1⟩⟩
       case rest =>
        clear HC51
        try clear c1
        try clear p2
        try clear c3
        try clear c4
        try clear c5
        try clear c6
        try clear c8
        try clear c16
        try clear c17
        try clear c39
        try clear c40
        try clear c41
        try clear c43
        try clear c43b0
        try clear c43b1
        try clear c43b2
        try clear c44
        try clear c45
        try clear c46
        try clear c48
        try clear c49
        try clear c52
        try clear c53
        try clear c54
        try clear c56
        try clear c56b0
        try clear c56b1
        try clear c56b2
        try clear c57
        try clear c58
        try clear c59
        try clear c61
        try clear c62
        try clear hcz42_0
        try clear hcz42_1
        try clear hcz42_2
        try clear hcz42_3
        try clear hcz42_4
        try clear hcz42_5
        try clear hcz42_6
        try clear hcz47_0
        try clear hcz47_1
        try clear hcz47_2
        try clear hcz47_3
        try clear hcz47_4
        try clear hcz47_5
        try clear hcz47_6
        try clear hcz50_0
        try clear hcz50_1
        try clear hcz50_2
        try clear hcz50_3
        try clear hcz50_4
        try clear hcz50_5
        try clear hcz50_6
        try clear hcz55_0
        try clear hcz55_1
        try clear hcz55_2
        try clear hcz55_3
        try clear hcz55_4
        try clear hcz55_5
        try clear hcz55_6
        try clear hcz60_0
        try clear hcz60_1
        try clear hcz60_2
        try clear hcz60_3
        try clear hcz60_4
        try clear hcz60_5
        try clear hcz60_6
        try clear hcz63_0
        try clear hcz63_1
        try clear hcz63_2
        try clear hcz63_3
        try clear hcz63_4
        try clear hcz63_5
        try clear hcz63_6
        try clear hfz42_0
        try clear hfz42_1
        try clear hfz42_2
        try clear hfz42_3
        try clear hfz42_4
        try clear hfz42_5
        try clear hfz42_6
        try clear hfz47_0
        try clear hfz47_1
        try clear hfz47_2
        try clear hfz47_3
        try clear hfz47_4
        try clear hfz47_5
        try clear hfz47_6
        try clear hfz50_0
        try clear hfz50_1
        try clear hfz50_2
        try clear hfz50_3
        try clear hfz50_4
        try clear hfz50_5
        try clear hfz50_6
        try clear hfz55_0
        try clear hfz55_1
        try clear hfz55_2
        try clear hfz55_3
        try clear hfz55_4
        try clear hfz55_5
        try clear hfz55_6
        try clear hfz60_0
        try clear hfz60_1
        try clear hfz60_2
        try clear hfz60_3
        try clear hfz60_4
        try clear hfz60_5
        try clear hfz60_6
        try clear hfz63_0
        try clear hfz63_1
        try clear hfz63_2
        try clear hfz63_3
        try clear hfz63_4
        try clear hfz63_5
        try clear hfz63_6
        try clear p2
        obtain ⟨kq, x183002_50, HA, HJ50, HO_183004, HO_183006, BK159, BK160, BK161, BK182, HB⟩ := hcut
        cases kq with
        | zero => exact absurd HA.out (by simp [spec_l3Merge.j1])
        | succ kj50 =>
         have H := HA.out;clear HA;simp only [spec_l3Merge.j1] at H;have H' := Aside0.mk H;clear H
         go_wp2
         go_loopg [6] kj50 (fun kq v6 w' => ∃ (x6_3 : Int) (x183005_3 : List Int) (u183005 : Value), v6 = .int .i64 x6_3 ∧ Aside0 (spec_l3Merge.l0 kq x6_3 a0_0 a0_1 a0_2 a0_3 l0_4 l0_5 l0_6 a1_0 a1_1 a1_2 a1_3 l1_4 l1_5 l1_6 t162 t163 x183002_50 t165 t166 x183005_3 y179 = some (r1, r2, r3, r4, r5, r6, r7)) ∧ Aside0 (kq ≤ kj50) ∧ Aside0 (Kd.R (Kd.int .i64) 3 w' w.heap.size (fun k_ => (w.heap.size ≤ k_) ∧ some k_ ≠ (u183005 : Value).ownBlock) (.slice Ao31 t166.length co31) t166) ∧ Aside0 (Kd.R (Kd.int .i64) 3 w' w.heap.size (fun k_ => (w.heap.size ≤ k_) ∧ some k_ ≠ ((.slice Ao31 t166.length co31) : Value).ownBlock) u183005 x183005_3) ∧ Aside0 (Kd.N (Kd.slice 3 (Kd.int .i64)) 23 w' w.heap.size (fun k_ => (w.heap.size ≤ k_) ∧ some k_ ≠ ((.slice Ao31 t166.length co31) : Value).ownBlock ∧ some k_ ≠ (u183005 : Value).ownBlock ∧ k_ ≠ gb159 ∧ k_ ≠ gb160 ∧ k_ ≠ gb161 ∧ k_ ≠ gb182) (.slice Ao30 y179.length co30) y179) ∧ Aside0 (w'.heap[gb159]? = some (.cells #[.int .i64 a0_0, .int .i64 a0_1, .int .i64 a0_2, .int .i64 a0_3, (.slice A0_4 l0_4.length c0_4), (.slice A0_5 l0_5.length c0_5), (.slice (some ad169) l0_6.length c0_6)] 26 (0, 0))) ∧ Aside0 (w'.heap[gb160]? = some (.cells #[.int .i64 a1_0, .int .i64 a1_1, .int .i64 a1_2, .int .i64 a1_3, (.slice A1_4 l1_4.length c1_4), (.slice A1_5 l1_5.length c1_5), (.slice (some ad170) l1_6.length c1_6)] 26 (0, 0))) ∧ Aside0 (w'.heap[gb161]? = some (.cells #[.int .i64 0, .int .i64 0, .int .i64 0, .int .i64 0, (.slice none 0 0), (.slice none 0 0), (.slice none 0 0)] 26 (0, 0))) ∧ Aside0 (w'.heap[gb182]? = some (.cells #[.int .i64 t162, .int .i64 t163, .int .i64 x183002_50, .int .i64 t165, (.slice Ao31 t166.length co31), u183005, (.slice Ao30 y179.length co30)] 26 (0, 0))) ∧ Aside0 (Below w.heap.size w w'))
         case atStart => exact ⟨(0), (([] : List Int)), (.slice none 0 0), (by first | rfl | (simp; done) | (simp [*]; done)), H', ⟨Nat.le_refl _⟩, ⟨by (with_reducible repeat (first | apply Kd.R_alloc | apply Kd.R_drewN | apply Kd.R_drew)); exact Kd.R_mono HO_183004.out (fun _ hk => ⟨hk, (by simp [Value.ownBlock])⟩)⟩, ⟨by first | exact Kd.R_nil _ _ _ _ _ | exact Kd.N_nil _ _ _ _ _ | exact Kd.V_nil _ _ _ _ _ | exact Kd.Q_nil _ _ _ _ _ | exact Kd.S_nil _ _ _ _ _⟩, ⟨by (with_reducible repeat (first | apply Kd.N_alloc | apply Kd.N_drewN | apply Kd.N_drew)); exact Kd.N_mono HO_183006.out (fun _ hk => ⟨hk.1, ⟨hk.2.1, ⟨(by simp [Value.ownBlock]), ⟨hk.2.2.1, ⟨hk.2.2.2.1, ⟨hk.2.2.2.2.1, hk.2.2.2.2.2⟩⟩⟩⟩⟩⟩)⟩, ⟨Z5x2⟩, ⟨Z5x3⟩, ⟨Z5x4⟩, ⟨Z5x10⟩, ⟨Z5x1⟩⟩
         case round =>
          clear H'
          try clear c1
          try clear p2
          try clear c3
          try clear c4
          try clear c5
          try clear c6
          try clear c8
          try clear c16
          try clear c17
          try clear c39
          try clear c40
          try clear c41
          try clear c43
          try clear c43b0
          try clear c43b1
          try clear c43b2
          try clear c44
          try clear c45
          try clear c46
          try clear c48
          try clear c49
          try clear c52
          try clear c53
          try clear c54
          try clear c56
          try clear c56b0
          try clear c56b1
          try clear c56b2
          try clear c57
          try clear c58
          try clear c59
          try clear c61
          try clear c62
          try clear hcz42_0
          try clear hcz42_1
          try clear hcz42_2
          try clear hcz42_3
          try clear hcz42_4
          try clear hcz42_5
          try clear hcz42_6
          try clear hcz47_0
          try clear hcz47_1
          try clear hcz47_2
          try clear hcz47_3
          try clear hcz47_4
          try clear hcz47_5
          try clear hcz47_6
          try clear hcz50_0
          try clear hcz50_1
          try clear hcz50_2
          try clear hcz50_3
          try clear hcz50_4
          try clear hcz50_5
          try clear hcz50_6
          try clear hcz55_0
          try clear hcz55_1
          try clear hcz55_2
          try clear hcz55_3
          try clear hcz55_4
          try clear hcz55_5
          try clear hcz55_6
          try clear hcz60_0
          try clear hcz60_1
          try clear hcz60_2
          try clear hcz60_3
          try clear hcz60_4
          try clear hcz60_5
          try clear hcz60_6
          try clear hcz63_0
          try clear hcz63_1
          try clear hcz63_2
          try clear hcz63_3
          try clear hcz63_4
          try clear hcz63_5
          try clear hcz63_6
          try clear hfz42_0
          try clear hfz42_1
          try clear hfz42_2
          try clear hfz42_3
          try clear hfz42_4
          try clear hfz42_5
          try clear hfz42_6
          try clear hfz47_0
          try clear hfz47_1
          try clear hfz47_2
          try clear hfz47_3
          try clear hfz47_4
          try clear hfz47_5
          try clear hfz47_6
          try clear hfz50_0
          try clear hfz50_1
          try clear hfz50_2
          try clear hfz50_3
          try clear hfz50_4
          try clear hfz50_5
          try clear hfz50_6
          try clear hfz55_0
          try clear hfz55_1
          try clear hfz55_2
          try clear hfz55_3
          try clear hfz55_4
          try clear hfz55_5
          try clear hfz55_6
          try clear hfz60_0
          try clear hfz60_1
          try clear hfz60_2
          try clear hfz60_3
          try clear hfz60_4
          try clear hfz60_5
          try clear hfz60_6
          try clear hfz63_0
          try clear hfz63_1
          try clear hfz63_2
          try clear hfz63_3
          try clear hfz63_4
          try clear hfz63_5
          try clear hfz63_6
          try clear p2
          (try clear BK159)
          (try clear BK160)
          (try clear BK161)
          (try clear BK182)
          obtain ⟨x6_3, x183005_3, u183005, rfl, HA, HK3, HO_183004, HO_183005, HO_183006, BK159, BK160, BK161, BK182, HB⟩ := hrel
          cases gk with
          | zero => exact absurd HA.out (by simp [spec_l3Merge.l0])
          | succ k3 =>
           have H := HA.out;clear HA;simp only [spec_l3Merge.l0] at H
           by_cases c64 : x6_3 < 8
           ·rw [if_pos c64] at H
            have c64b0 : decide (x6_3 < 8) = true := decide_eq_true c64;clear c64
            by_cases c65 : 0 ≤ x6_3
            ·rw [if_pos c65] at H
             have c65b0 : decide (0 ≤ x6_3) = true := decide_eq_true c65;clear c65
             by_cases c66 : x6_3 < (l0_5.length : Int)
             ·rw [if_pos c66] at H
              have c66b0 : decide (x6_3 < (l0_5.length : Int)) = true := decide_eq_true c66;clear c66
              by_cases c67 : x6_3 < (l1_5.length : Int)
              ·rw [if_pos c67] at H
               have c67b0 : decide (x6_3 < (l1_5.length : Int)) = true := decide_eq_true c67;clear c67;replace H := Option.bind_eq_some_iff.mp H;obtain ⟨t185, A680, H⟩ := H;replace H : (if x183005_3.length < 17592186044416 then (spec_l3Merge.l0 k3 (wrap64 (x6_3 + 1)) a0_0 a0_1 a0_2 a0_3 l0_4 l0_5 l0_6 a1_0 a1_1 a1_2 a1_3 l1_4 l1_5 l1_6 t162 t163 x183002_50 t165 t166 (x183005_3 ++ [t185]) y179) else (none)) = some (r1, r2, r3, r4, r5, r6, r7) := H;have A68 := Aside0.mk A680;clear A680
               by_cases c69 : x183005_3.length < 17592186044416
               ·rw [if_pos c69] at H
                have LMc69 := Aside0.mk c69;clear c69;obtain ⟨y186, hy186⟩ : ∃ y_ : List Int, y_ = (x183005_3 ++ [t185]) := ⟨_, rfl⟩
                replace H : (spec_l3Merge.l0 k3 (wrap64 (x6_3 + 1)) a0_0 a0_1 a0_2 a0_3 l0_4 l0_5 l0_6 a1_0 a1_1 a1_2 a1_3 l1_4 l1_5 l1_6 t162 t163 x183002_50 t165 t166 y186 y179) = some (r1, r2, r3, r4, r5, r6, r7) := by first | (rw [hy186]; with_reducible exact H) | (have H2_ := (Option.bind_some _ _).symm.trans H; rw [hy186]; with_reducible exact H2_) | (have H2_ := (Option.bind_some _ _).symm.trans H; with_reducible exact H2_) | with_reducible exact H | (rw [hy186]; exact H) | exact H
                have Ny186 := Aside0.mk hy186;clear hy186;have H' := Aside0.mk H;clear H
                try go_wp2
                have n0_ := Aside0.mk (Kd.R_drew HO_183004.out);have n1_ := Aside0.mk (Kd.R_drew HO_183005.out);have n2_ := Aside0.mk (Kd.N_drew HO_183006.out);have n3_ := Aside0.mk (blk_drew BK159.out);have n4_ := Aside0.mk (blk_drew BK160.out);have n5_ := Aside0.mk (blk_drew BK161.out);have n6_ := Aside0.mk (blk_drew BK182.out);have n7_ := Aside0.mk (below_drew1 HB.out);clear HO_183004;clear HO_183005;clear HO_183006;clear BK159;clear BK160;clear BK161;clear BK182;clear HB;have HO_183004 := n0_;have HO_183005 := n1_;have HO_183006 := n2_;have BK159 := n3_;have BK160 := n4_;have BK161 := n5_;have BK182 := n6_;have HB := n7_;clear n0_ n1_ n2_ n3_ n4_ n5_ n6_ n7_;have p183 : 0 ≤ (x6_3 : Int) := of_decide_eq_true Z5x24;have q183 : x6_3 < (l0_5.length : Int) := of_decide_eq_true Z5x24;obtain ⟨ad183, e183, hx183_0⟩ := Kd.at_int HR0_5.out x6_3 p183 q183;have hw183_0 := hx183_0
                cases e183
                replace hx183_0 := (HB.out.cell (World.block_lt_of_cell? w _ hx183_0)).trans hx183_0;replace p183 := eq_true p183;replace q183 := eq_true q183;have p184 : 0 ≤ (x6_3 : Int) := of_decide_eq_true Z5x24;have q184 : x6_3 < (l1_5.length : Int) := of_decide_eq_true Z5x24;obtain ⟨ad184, e184, hx184_0⟩ := Kd.at_int HR1_5.out x6_3 p184 q184;have hw184_0 := hx184_0
                cases e184
                replace hx184_0 := (HB.out.cell (World.block_lt_of_cell? w _ hx184_0)).trans hx184_0;replace p184 := eq_true p184;replace q184 := eq_true q184;refine start_ (n := 17) (S := fun w' => w'.cell? ⟨gb182, 0, none⟩ = some (.int .i64 t162) ∧ w'.cell? ⟨gb182, 1, none⟩ = some (.int .i64 t163) ∧ w'.cell? ⟨gb182, 2, none⟩ = some (.int .i64 x183002_50) ∧ w'.cell? ⟨gb182, 3, none⟩ = some (.int .i64 t165) ∧ w'.cell? ⟨gb182, 4, none⟩ = some (.slice Ao31 t166.length co31) ∧ w'.cell? ⟨gb182, 5, none⟩ = some (u183005) ∧ w'.cell? ⟨gb182, 6, none⟩ = some (.slice Ao30 y179.length co30) ∧ w'.cell? ⟨gb159, 0, none⟩ = some (.int .i64 a0_0) ∧ w'.cell? ⟨gb159, 1, none⟩ = some (.int .i64 a0_1) ∧ w'.cell? ⟨gb159, 2, none⟩ = some (.int .i64 a0_2) ∧ w'.cell? ⟨gb159, 3, none⟩ = some (.int .i64 a0_3) ∧ w'.cell? ⟨gb159, 4, none⟩ = some (.slice A0_4 l0_4.length c0_4) ∧ w'.cell? ⟨gb159, 5, none⟩ = some (.slice (some ad183) l0_5.length c0_5) ∧ w'.cell? ⟨gb159, 6, none⟩ = some (.slice (some ad169) l0_6.length c0_6) ∧ w'.cell? ⟨gb160, 0, none⟩ = some (.int .i64 a1_0) ∧ w'.cell? ⟨gb160, 1, none⟩ = some (.int .i64 a1_1) ∧ w'.cell? ⟨gb160, 2, none⟩ = some (.int .i64 a1_2) ∧ w'.cell? ⟨gb160, 3, none⟩ = some (.int .i64 a1_3) ∧ w'.cell? ⟨gb160, 4, none⟩ = some (.slice A1_4 l1_4.length c1_4) ∧ w'.cell? ⟨gb160, 5, none⟩ = some (.slice (some ad184) l1_5.length c1_5) ∧ w'.cell? ⟨gb160, 6, none⟩ = some (.slice (some ad170) l1_6.length c1_6) ∧ w'.cell? (ad183.add (x6_3).toNat) = some (.int .i64 (rd l0_5 x6_3)) ∧ w'.cell? (ad184.add (x6_3).toNat) = some (.int .i64 (rd l1_5 x6_3))) (ds := [16]) #[false, false, false, false, false, false, false, false, false, false, false, false, false, false, false, false, false] (by kernel_rfl) rfl rfl ⟨(blk_cell BK182.out 0).trans rfl, (blk_cell BK182.out 1).trans rfl, (blk_cell BK182.out 2).trans rfl, (blk_cell BK182.out 3).trans rfl, (blk_cell BK182.out 4).trans rfl, (blk_cell BK182.out 5).trans rfl, (blk_cell BK182.out 6).trans rfl, (blk_cell BK159.out 0).trans rfl, (blk_cell BK159.out 1).trans rfl, (blk_cell BK159.out 2).trans rfl, (blk_cell BK159.out 3).trans rfl, (blk_cell BK159.out 4).trans rfl, (blk_cell BK159.out 5).trans rfl, (blk_cell BK159.out 6).trans rfl, (blk_cell BK160.out 0).trans rfl, (blk_cell BK160.out 1).trans rfl, (blk_cell BK160.out 2).trans rfl, (blk_cell BK160.out 3).trans rfl, (blk_cell BK160.out 4).trans rfl, (blk_cell BK160.out 5).trans rfl, (blk_cell BK160.out 6).trans rfl, ((HB.out.cell (World.block_lt_of_cell? w _ hw183_0)).trans hw183_0), ((HB.out.cell (World.block_lt_of_cell? w _ hw184_0)).trans hw184_0)⟩ (fun hHeld => ?_); refine with_tabW spec_l3Merge.tab9 spec_l3Merge.bits9 (fun HT_ HW_ => ?_);generalize wr.drew = w70 at HO_183004 HO_183005 HO_183006 BK159 BK160 BK161 BK182 HB hx183_0 hx184_0 hHeld ⊢;refine pure_ (i := 0) (N := some 68) (v := ?_) (a' := ?_) #[true, false, false, false, false, false, false, false, false, false, false, false, false, false, false, false, false] rfl rfl (any_of HT_.out (by kernel_rfl)) (fun _ _ _ h => h) (Or.inl ⟨by rfl, ?_⟩) ?_ ?_
                rotate_left
                ·intro w'
                 go_simp
                 with_reducible rfl
                rotate_left
                ·simp only [Act.put, List.setIfInBounds_toArray, List.set_cons_zero, List.set_cons_succ, i64_w, i32_w]
                 rfl
                refine pure_ (i := 2) (N := some 70) (v := ?_) (a' := ?_) #[true, false, true, false, false, false, false, false, false, false, false, false, false, false, false, false, false] rfl rfl (any_of HT_.out (by kernel_rfl)) (fun _ _ _ h => h) (Or.inl ⟨by rfl, ?_⟩) ?_ ?_
                rotate_left
                ·intro w'
                 go_simp
                 with_reducible rfl
                rotate_left
                ·simp only [Act.put, List.setIfInBounds_toArray, List.set_cons_zero, List.set_cons_succ, i64_w, i32_w]
                 rfl
                refine pure_ (i := 4) (N := some 72) (v := ?_) (a' := ?_) #[true, false, true, false, true, false, false, false, false, false, false, false, false, false, false, false, false] rfl rfl (any_of HT_.out (by kernel_rfl)) (fun _ _ _ h => h) (Or.inl ⟨by rfl, ?_⟩) ?_ ?_
                rotate_left
                ·intro w'
                 go_simp
                 with_reducible rfl
                rotate_left
                ·simp only [Act.put, List.setIfInBounds_toArray, List.set_cons_zero, List.set_cons_succ, i64_w, i32_w]
                 rfl
                refine pure_ (i := 7) (N := some 75) (v := ?_) (a' := ?_) #[true, false, true, false, true, false, false, true, false, false, false, false, false, false, false, false, false] rfl rfl (any_of HT_.out (by kernel_rfl)) (fun _ _ _ h => h) (Or.inl ⟨by rfl, ?_⟩) ?_ ?_
                rotate_left
                ·intro w'
                 go_simp
                 with_reducible rfl
                rotate_left
                ·simp only [Act.put, List.setIfInBounds_toArray, List.set_cons_zero, List.set_cons_succ, i64_w, i32_w]
                 rfl
                refine pure_ (i := 9) (N := some 77) (v := ?_) (a' := ?_) #[true, false, true, false, true, false, false, true, false, true, false, false, false, false, false, false, false] rfl rfl (any_of HT_.out (by kernel_rfl)) (fun _ _ _ h => h) (Or.inl ⟨by rfl, ?_⟩) ?_ ?_
                rotate_left
                ·intro w'
                 go_simp
                 with_reducible rfl
                rotate_left
                ·simp only [Act.put, List.setIfInBounds_toArray, List.set_cons_zero, List.set_cons_succ, i64_w, i32_w]
                 rfl
                refine take_ (i := 1) (N := some 69) (v := ?_) (a' := ?_) #[true, true, true, false, true, false, false, true, false, true, false, false, false, false, false, false, false] rfl rfl (take_ofW HT_.out HW_.out (by kernel_rfl)) (fun _ _ _ h => h) (Or.inl ⟨by rfl, ?_⟩) hHeld ?_ ?_
                rotate_left
                ·rintro w' ⟨s0, s1, s2, s3, s4, s5, s6, s7, s8, s9, s10, s11, s12, s13, s14, s15, s16, s17, s18, s19, s20, s21, s22⟩
                 go_simp
                 with_reducible rfl
                rotate_left
                ·simp only [Act.put, List.setIfInBounds_toArray, List.set_cons_zero, List.set_cons_succ, i64_w, i32_w]
                 rfl
                refine take_ (i := 3) (N := some 71) (v := ?_) (a' := ?_) #[true, true, true, true, true, false, false, true, false, true, false, false, false, false, false, false, false] rfl rfl (take_ofW HT_.out HW_.out (by kernel_rfl)) (fun _ _ _ h => h) (Or.inl ⟨by rfl, ?_⟩) hHeld ?_ ?_
                rotate_left
                ·rintro w' ⟨s0, s1, s2, s3, s4, s5, s6, s7, s8, s9, s10, s11, s12, s13, s14, s15, s16, s17, s18, s19, s20, s21, s22⟩
                 go_simp
                 with_reducible rfl
                rotate_left
                ·simp only [Act.put, List.setIfInBounds_toArray, List.set_cons_zero, List.set_cons_succ, i64_w, i32_w]
                 rfl
                refine pure_ (i := 5) (N := some 73) (v := ?_) (a' := ?_) #[true, true, true, true, true, true, false, true, false, true, false, false, false, false, false, false, false] rfl rfl (any_of HT_.out (by kernel_rfl)) (fun _ _ _ h => h) (Or.inl ⟨by rfl, ?_⟩) ?_ ?_
                rotate_left
                ·intro w'
                 go_simp
                 with_reducible rfl
                rotate_left
                ·simp only [Act.put, List.setIfInBounds_toArray, List.set_cons_zero, List.set_cons_succ, i64_w, i32_w]
                 rfl
                refine take_ (i := 6) (N := some 74) (v := ?_) (a' := ?_) #[true, true, true, true, true, true, true, true, false, true, false, false, false, false, false, false, false] rfl rfl (take_ofW HT_.out HW_.out (by kernel_rfl)) (fun _ _ _ h => h) (Or.inl ⟨by rfl, ?_⟩) hHeld ?_ ?_
                rotate_left
                ·rintro w' ⟨s0, s1, s2, s3, s4, s5, s6, s7, s8, s9, s10, s11, s12, s13, s14, s15, s16, s17, s18, s19, s20, s21, s22⟩
                 go_simp
                 with_reducible rfl
                rotate_left
                ·simp only [Act.put, List.setIfInBounds_toArray, List.set_cons_zero, List.set_cons_succ, i64_w, i32_w]
                 rfl
                refine take_ (i := 8) (N := some 76) (v := ?_) (a' := ?_) #[true, true, true, true, true, true, true, true, true, true, false, false, false, false, false, false, false] rfl rfl (take_ofW HT_.out HW_.out (by kernel_rfl)) (fun _ _ _ h => h) (Or.inl ⟨by rfl, ?_⟩) hHeld ?_ ?_
                rotate_left
                ·rintro w' ⟨s0, s1, s2, s3, s4, s5, s6, s7, s8, s9, s10, s11, s12, s13, s14, s15, s16, s17, s18, s19, s20, s21, s22⟩
                 go_simp
                 with_reducible rfl
                rotate_left
                ·simp only [Act.put, List.setIfInBounds_toArray, List.set_cons_zero, List.set_cons_succ, i64_w, i32_w]
                 rfl
                refine pure_ (i := 10) (N := some 78) (v := ?_) (a' := ?_) #[true, true, true, true, true, true, true, true, true, true, true, false, false, false, false, false, false] rfl rfl (any_of HT_.out (by kernel_rfl)) (fun _ _ _ h => h) (Or.inl ⟨by rfl, ?_⟩) ?_ ?_
                rotate_left
                ·intro w'
                 go_simp
                 with_reducible rfl
                rotate_left
                ·simp only [Act.put, List.setIfInBounds_toArray, List.set_cons_zero, List.set_cons_succ, i64_w, i32_w]
                 rfl
                refine take_ (i := 11) (N := some 79) (v := ?_) (a' := ?_) #[true, true, true, true, true, true, true, true, true, true, true, true, false, false, false, false, false] rfl rfl (take_ofW HT_.out HW_.out (by kernel_rfl)) (fun _ _ _ h => h) (Or.inl ⟨by rfl, ?_⟩) hHeld ?_ ?_
                rotate_left
                ·rintro w' ⟨s0, s1, s2, s3, s4, s5, s6, s7, s8, s9, s10, s11, s12, s13, s14, s15, s16, s17, s18, s19, s20, s21, s22⟩
                 go_simp
                 with_reducible rfl
                rotate_left
                ·simp only [Act.put, List.setIfInBounds_toArray, List.set_cons_zero, List.set_cons_succ, i64_w, i32_w]
                 rfl
                refine one_ (i := 12) (N := some 80) #[true, true, true, true, true, true, true, true, true, true, true, true, true, false, false, false, false] rfl rfl (one_of HT_.out (by kernel_rfl)) (by decide) (fun K hK => ?_);refine goes_ Try.func86 (by kernel_rfl) rfl #[.int .i64 (rd l0_5 x6_3), .int .i64 (rd l1_5 x6_3)] (by rfl) rfl rfl Z5x16 ?_
                with_reducible refine (spec_l1Max.calls (rd l0_5 x6_3) (rd l1_5 x6_3) t185 _ A68.out).mono ?_
                rintro e w' ⟨rfl, ⟨nd, rfl⟩⟩
                refine ⟨_, rfl, ?_⟩;refine hK.out _ _ ⟨(blk_cell BK182.out 0).trans rfl, (blk_cell BK182.out 1).trans rfl, (blk_cell BK182.out 2).trans rfl, (blk_cell BK182.out 3).trans rfl, (blk_cell BK182.out 4).trans rfl, (blk_cell BK182.out 5).trans rfl, (blk_cell BK182.out 6).trans rfl, (blk_cell BK159.out 0).trans rfl, (blk_cell BK159.out 1).trans rfl, (blk_cell BK159.out 2).trans rfl, (blk_cell BK159.out 3).trans rfl, (blk_cell BK159.out 4).trans rfl, (blk_cell BK159.out 5).trans rfl, (blk_cell BK159.out 6).trans rfl, (blk_cell BK160.out 0).trans rfl, (blk_cell BK160.out 1).trans rfl, (blk_cell BK160.out 2).trans rfl, (blk_cell BK160.out 3).trans rfl, (blk_cell BK160.out 4).trans rfl, (blk_cell BK160.out 5).trans rfl, (blk_cell BK160.out 6).trans rfl, ((HB.out.cell (World.block_lt_of_cell? w _ hw183_0)).trans hw183_0), ((HB.out.cell (World.block_lt_of_cell? w _ hw184_0)).trans hw184_0)⟩ (fun hHeld => ?_);clear hK K;refine norm_ (a' := ?_) ?_ ?_
                rotate_left
                ·show Act.put _ (some 80) _ = _
                 simp only [Act.put, List.setIfInBounds_toArray, List.set_cons_zero, List.set_cons_succ, i64_w, i32_w]
                 rfl
                refine one_ (i := 13) (N := some 81) #[true, true, true, true, true, true, true, true, true, true, true, true, true, true, false, false, false] rfl rfl (one_of HT_.out (by kernel_rfl)) (by decide) (fun K hK => ?_);refine value_ (w1 := ?_) (v := ?_) (by rfl) rfl ?_ ?_
                rotate_left 2
                ·go_simp
                 constructor
                 ·rfl
                 ·rfl
                refine hK.out _ _ ⟨(blk_cell (blk_alloc BK182.out _) 0).trans rfl, (blk_cell (blk_alloc BK182.out _) 1).trans rfl, (blk_cell (blk_alloc BK182.out _) 2).trans rfl, (blk_cell (blk_alloc BK182.out _) 3).trans rfl, (blk_cell (blk_alloc BK182.out _) 4).trans rfl, (blk_cell (blk_alloc BK182.out _) 5).trans rfl, (blk_cell (blk_alloc BK182.out _) 6).trans rfl, (blk_cell (blk_alloc BK159.out _) 0).trans rfl, (blk_cell (blk_alloc BK159.out _) 1).trans rfl, (blk_cell (blk_alloc BK159.out _) 2).trans rfl, (blk_cell (blk_alloc BK159.out _) 3).trans rfl, (blk_cell (blk_alloc BK159.out _) 4).trans rfl, (blk_cell (blk_alloc BK159.out _) 5).trans rfl, (blk_cell (blk_alloc BK159.out _) 6).trans rfl, (blk_cell (blk_alloc BK160.out _) 0).trans rfl, (blk_cell (blk_alloc BK160.out _) 1).trans rfl, (blk_cell (blk_alloc BK160.out _) 2).trans rfl, (blk_cell (blk_alloc BK160.out _) 3).trans rfl, (blk_cell (blk_alloc BK160.out _) 4).trans rfl, (blk_cell (blk_alloc BK160.out _) 5).trans rfl, (blk_cell (blk_alloc BK160.out _) 6).trans rfl, (World.cell?_alloc_lt _ _ _ (World.block_lt_of_cell? _ _ (((HB.out.cell (World.block_lt_of_cell? w _ hw183_0)).trans hw183_0)))).trans (((HB.out.cell (World.block_lt_of_cell? w _ hw183_0)).trans hw183_0)), (World.cell?_alloc_lt _ _ _ (World.block_lt_of_cell? _ _ (((HB.out.cell (World.block_lt_of_cell? w _ hw184_0)).trans hw184_0)))).trans (((HB.out.cell (World.block_lt_of_cell? w _ hw184_0)).trans hw184_0))⟩ (fun hHeld => ?_);clear hK K;refine norm_ (a' := ?_) ?_ ?_
                rotate_left
                ·show Act.put _ (some 81) _ = _
                 simp only [Act.put, List.setIfInBounds_toArray, List.set_cons_zero, List.set_cons_succ, i64_w, i32_w]
                 rfl
                refine one_ (i := 14) (N := some 82) #[true, true, true, true, true, true, true, true, true, true, true, true, true, true, true, false, false] rfl rfl (one_of HT_.out (by kernel_rfl)) (by decide) (fun K hK => ?_);refine Kd.R_append_step (Kd.int .i64) (w0 := w) w.heap.size (by rfl) (.tmp 69) (.tmp 81) 23 3 (.int .i64 0) 8 rfl Try.underlying23 info3 rfl (by decide) (by omega) u183005 x183005_3 t185 [.int .i64 t185] (fun k_ => (w.heap.size ≤ k_) ∧ some k_ ≠ (.slice Ao31 t166.length co31 : Value).ownBlock) (fun _ => False) rfl rfl ?aP (fun _ hk => hk.elim) ?aF ?aO ?aB ?aS ?aL ?_
                (case aP => exact rfl)
                (case aB => exact Z5x1)
                (case aF => exact (fun k_ hk => ⟨(Nat.le_trans (below_size Z5x1) hk), Kd.fresh' (Kd.R_lt (by (with_reducible repeat (first | apply Kd.R_alloc | apply Kd.R_drewN | apply Kd.R_drew)); exact HO_183004.out)) k_ hk⟩))
                (case aO => exact (by (with_reducible repeat (first | apply Kd.R_alloc | apply Kd.R_drewN | apply Kd.R_drew)); exact HO_183005.out))
                (case aS => exact (below_size Z5x1))
                (case aL => have := LMc69.out; omega)
                intro v187 w71 ho hb hg hat;rw [← Ny186.out] at ho;have n0_ := Aside0.mk (Kd.R_after (ok := (fun k_ => (w.heap.size ≤ k_))) (by (with_reducible repeat (first | apply Kd.R_alloc | apply Kd.R_drewN | apply Kd.R_drew)); exact HO_183004.out) hg hat);have n1_ := Aside0.mk (Kd.N_afterv (ok := (fun k_ => (w.heap.size ≤ k_) ∧ some k_ ≠ (.slice Ao31 t166.length co31 : Value).ownBlock ∧ k_ ≠ gb159 ∧ k_ ≠ gb160 ∧ k_ ≠ gb161 ∧ k_ ≠ gb182)) (by (with_reducible repeat (first | apply Kd.N_alloc | apply Kd.N_drewN | apply Kd.N_drew)); exact Kd.N_mono HO_183006.out (fun _ hk => ⟨⟨hk.1, ⟨hk.2.1, ⟨hk.2.2.2.1, ⟨hk.2.2.2.2.1, ⟨hk.2.2.2.2.2.1, hk.2.2.2.2.2.2⟩⟩⟩⟩⟩, hk.2.2.1⟩)) hg hat);have n2_ := Aside0.mk (blk_grown (g := gb159) (o := .cells #[.int .i64 a0_0, .int .i64 a0_1, .int .i64 a0_2, .int .i64 a0_3, .slice A0_4 l0_4.length c0_4, .slice (some ad183) l0_5.length c0_5, .slice (some ad169) l0_6.length c0_6] 26 (0, 0)) Z5x2 hg (Kd.R_ne HO_183005.out BK159.out (by decide)));have n3_ := Aside0.mk (blk_grown (g := gb160) (o := .cells #[.int .i64 a1_0, .int .i64 a1_1, .int .i64 a1_2, .int .i64 a1_3, .slice A1_4 l1_4.length c1_4, .slice (some ad184) l1_5.length c1_5, .slice (some ad170) l1_6.length c1_6] 26 (0, 0)) Z5x3 hg (Kd.R_ne HO_183005.out BK160.out (by decide)));have n4_ := Aside0.mk (blk_grown (g := gb161) (o := .cells #[.int .i64 0, .int .i64 0, .int .i64 0, .int .i64 0, .slice none 0 0, .slice none 0 0, .slice none 0 0] 26 (0, 0)) Z5x4 hg (Kd.R_ne HO_183005.out BK161.out (by decide)));have n5_ := Aside0.mk (blk_grown (g := gb182) (o := .cells #[.int .i64 t162, .int .i64 t163, .int .i64 x183002_50, .int .i64 t165, .slice Ao31 t166.length co31, u183005, .slice Ao30 y179.length co30] 26 (0, 0)) Z5x10 hg (Kd.R_ne HO_183005.out BK182.out (by decide)));have n6_ := Aside0.mk (hb);have n7_ := Aside0.mk (ho);clear HO_183004;clear HO_183006;clear BK159;clear BK160;clear BK161;clear BK182;clear HB;clear HO_183005;have HO_183004 := n0_;have HO_183006 := n1_;have BK159 := n2_;have BK160 := n3_;have BK161 := n4_;have BK182 := n5_;have HB := n6_;have HO188 := n7_;clear n0_ n1_ n2_ n3_ n4_ n5_ n6_ n7_;clear ho hb hg hat;obtain ⟨Ao72, co72, eo72⟩ := Kd.R_slice HO188.out
                (first | subst eo72 | (injection eo72 with f1_ f2_ f3_; have f4_ := f1_.symm; have f5_ := f3_.symm; clear f1_ f2_ f3_; subst f4_; subst f5_))
                refine hK.out _ _ ⟨(blk_cell BK182.out 0).trans rfl, (blk_cell BK182.out 1).trans rfl, (blk_cell BK182.out 2).trans rfl, (blk_cell BK182.out 3).trans rfl, (blk_cell BK182.out 4).trans rfl, (blk_cell BK182.out 5).trans rfl, (blk_cell BK182.out 6).trans rfl, (blk_cell BK159.out 0).trans rfl, (blk_cell BK159.out 1).trans rfl, (blk_cell BK159.out 2).trans rfl, (blk_cell BK159.out 3).trans rfl, (blk_cell BK159.out 4).trans rfl, (blk_cell BK159.out 5).trans rfl, (blk_cell BK159.out 6).trans rfl, (blk_cell BK160.out 0).trans rfl, (blk_cell BK160.out 1).trans rfl, (blk_cell BK160.out 2).trans rfl, (blk_cell BK160.out 3).trans rfl, (blk_cell BK160.out 4).trans rfl, (blk_cell BK160.out 5).trans rfl, (blk_cell BK160.out 6).trans rfl, ((HB.out.cell (World.block_lt_of_cell? w _ hw183_0)).trans hw183_0), ((HB.out.cell (World.block_lt_of_cell? w _ hw184_0)).trans hw184_0)⟩ (fun hHeld => ?_);clear hK K;refine norm_ (a' := ?_) ?_ ?_
                rotate_left
                ·show Act.put _ (some 82) _ = _
                 simp only [Act.put, List.setIfInBounds_toArray, List.set_cons_zero, List.set_cons_succ, i64_w, i32_w]
                 rfl
                refine pure_ (i := 15) (N := some 83) (v := ?_) (a' := ?_) #[true, true, true, true, true, true, true, true, true, true, true, true, true, true, true, true, false] rfl rfl (any_of HT_.out (by kernel_rfl)) (fun _ _ _ h => h) (Or.inl ⟨by rfl, ?_⟩) ?_ ?_
                rotate_left
                ·intro w'
                 go_simp
                 with_reducible rfl
                rotate_left
                ·simp only [Act.put, List.setIfInBounds_toArray, List.set_cons_zero, List.set_cons_succ, i64_w, i32_w]
                 rfl
                refine last_ (i := 16) (N := none) #[true, true, true, true, true, true, true, true, true, true, true, true, true, true, true, true, true] rfl rfl (one_of HT_.out (by kernel_rfl)) (by decide) (fun K hK => ?_);have hs73 : w71.cell? ⟨gb182, 5, none⟩ = some (u183005) := (blk_cell BK182.out 5).trans rfl;have hfs73 := blk_frozen BK182.out 5;have hns73_0 := NB159_182.out;have hns73_1 := NB160_182.out;have hns73_2 := NB161_182.out;have hms73_0 := NB182_159.out;have hms73_1 := NB182_160.out;have hms73_2 := NB182_161.out;refine skip_ (w1 := ?_) (by rfl) rfl ?_ ?_
                rotate_left
                ·go_simp
                 rfl
                refine hK.out _ _ ?_;clear hK K;refine done_ (done_of HT_.out (by kernel_rfl)) ?_
                try go_wp2
                go_roundg k3
                case measure => have := HJ13.out; have := HJ50.out; have := HK3.out; omega
                case rel => exact ⟨(wrap64 (x6_3 + 1)), (y186), (.slice Ao72 y186.length co72), (by first | rfl | (simp; done) | (simp [*]; done)), H', ⟨by have := HJ13.out; have := HJ50.out; have := HK3.out; omega⟩, ⟨by (with_reducible repeat (first | apply Kd.R_alloc | apply Kd.R_drewN | apply Kd.R_drew)); exact Kd.R_mono (Kd.R_far (p := ⟨gb182, 5, none⟩) (Kd.R_types HO_183004.out BK182.out (by decide)) (fun _ hk => hk.2) (.slice Ao72 y186.length co72)) (fun _ hk => ⟨hk.1.1, hk.1.2⟩)⟩, ⟨by (with_reducible repeat (first | apply Kd.R_alloc | apply Kd.R_drewN | apply Kd.R_drew)); exact Kd.R_mono (Kd.R_far (p := ⟨gb182, 5, none⟩) (Kd.R_types HO188.out BK182.out (by decide)) (fun _ hk => hk.2) (.slice Ao72 y186.length co72)) (fun _ hk => ⟨hk.1.1, hk.1.2⟩)⟩, ⟨by (with_reducible repeat (first | apply Kd.N_alloc | apply Kd.N_drewN | apply Kd.N_drew)); exact Kd.N_mono (Kd.N_far (p := ⟨gb182, 5, none⟩) (Kd.N_mono HO_183006.out (fun k_ hk => (⟨hk, hk.1.2.2.2.2.2⟩ : _ ∧ k_ ≠ gb182))) (fun _ hk => hk.2) (.slice Ao72 y186.length co72)) (fun _ hk => ⟨hk.1.1.1, ⟨hk.1.1.2.1, ⟨hk.1.2, ⟨hk.1.1.2.2.1, ⟨hk.1.1.2.2.2.1, ⟨hk.1.1.2.2.2.2.1, hk.1.1.2.2.2.2.2⟩⟩⟩⟩⟩⟩)⟩, ⟨Z5x26⟩, ⟨Z5x27⟩, ⟨Z5x28⟩, ⟨by (with_reducible repeat (first | refine blk_drewN ?_ _ | refine blk_drew ?_ | refine blk_alloc ?_ _)); refine blk_put (cs := #[.int .i64 t162, .int .i64 t163, .int .i64 x183002_50, .int .i64 t165, .slice Ao31 t166.length co31, u183005, .slice Ao30 y179.length co30]) ?_ 5 _ rfl; (with_reducible repeat (first | refine blk_drewN ?_ _ | refine blk_drew ?_ | refine blk_alloc ?_ _)); exact BK182.out⟩, ⟨Z5x1⟩⟩
               ·rw [if_neg c69] at H
                exact absurd H (by simp)
              ·rw [if_neg c67] at H
               exact absurd H (by simp)
             ·rw [if_neg c66] at H
              exact absurd H (by simp)
            ·rw [if_neg c65] at H
             exact absurd H (by simp)
           ·rw [if_neg c64] at H
            have c64b0 : decide (x6_3 < 8) = false := decide_eq_false c64;clear c64;simp only [Option.some.injEq, Prod.mk.injEq] at H;obtain ⟨rfl, rfl, rfl, rfl, rfl, rfl, rfl⟩ := H;have hnb74 := NB182_159.out;have hnc74 := NB159_182.out;have hnb75 := NB182_160.out;have hnc75 := NB160_182.out;have hnb76 := NB182_161.out;have hnc76 := NB161_182.out;have hcz77_0 : wr.cell? ⟨gb182, 0, none⟩ = some (.int .i64 t162) := (blk_cell BK182.out 0).trans rfl;have hcz77_1 : wr.cell? ⟨gb182, 1, none⟩ = some (.int .i64 t163) := (blk_cell BK182.out 1).trans rfl;have hcz77_2 : wr.cell? ⟨gb182, 2, none⟩ = some (.int .i64 x183002_50) := (blk_cell BK182.out 2).trans rfl;have hcz77_3 : wr.cell? ⟨gb182, 3, none⟩ = some (.int .i64 t165) := (blk_cell BK182.out 3).trans rfl;have hcz77_4 : wr.cell? ⟨gb182, 4, none⟩ = some (.slice Ao31 t166.length co31) := (blk_cell BK182.out 4).trans rfl;have hcz77_5 : wr.cell? ⟨gb182, 5, none⟩ = some (u183005) := (blk_cell BK182.out 5).trans rfl;have hcz77_6 : wr.cell? ⟨gb182, 6, none⟩ = some (.slice Ao30 y179.length co30) := (blk_cell BK182.out 6).trans rfl;have hfz77_0 := blk_frozen BK182.out 0;have hfz77_1 := blk_frozen BK182.out 1;have hfz77_2 := blk_frozen BK182.out 2;have hfz77_3 := blk_frozen BK182.out 3;have hfz77_4 := blk_frozen BK182.out 4;have hfz77_5 := blk_frozen BK182.out 5;have hfz77_6 := blk_frozen BK182.out 6;have hnb78 := NB161_159.out;have hnc78 := NB159_161.out;have hnb79 := NB161_160.out;have hnc79 := NB160_161.out;have hcz80_0 : wr.cell? ⟨gb161, 0, none⟩ = some (.int .i64 0) := (blk_cell BK161.out 0).trans rfl;have hcz80_1 : wr.cell? ⟨gb161, 1, none⟩ = some (.int .i64 0) := (blk_cell BK161.out 1).trans rfl;have hcz80_2 : wr.cell? ⟨gb161, 2, none⟩ = some (.int .i64 0) := (blk_cell BK161.out 2).trans rfl;have hcz80_3 : wr.cell? ⟨gb161, 3, none⟩ = some (.int .i64 0) := (blk_cell BK161.out 3).trans rfl;have hcz80_4 : wr.cell? ⟨gb161, 4, none⟩ = some (.slice none 0 0) := (blk_cell BK161.out 4).trans rfl;have hcz80_5 : wr.cell? ⟨gb161, 5, none⟩ = some (.slice none 0 0) := (blk_cell BK161.out 5).trans rfl;have hcz80_6 : wr.cell? ⟨gb161, 6, none⟩ = some (.slice none 0 0) := (blk_cell BK161.out 6).trans rfl;have hfz80_0 := blk_frozen BK161.out 0;have hfz80_1 := blk_frozen BK161.out 1;have hfz80_2 := blk_frozen BK161.out 2;have hfz80_3 := blk_frozen BK161.out 3;have hfz80_4 := blk_frozen BK161.out 4;have hfz80_5 := blk_frozen BK161.out 5;have hfz80_6 := blk_frozen BK161.out 6;obtain ⟨Ao81, co81, eo81⟩ := Kd.R_slice HO_183005.out;subst eo81
            go_wp2
            refine bodyPost_ret (results_cell_row rfl _ _ gb161 26 #[.int .i64 t162, .int .i64 t163, .int .i64 x183002_50, .int .i64 t165, .slice Ao31 t166.length co31, .slice Ao81 x183005_3.length co81, .slice Ao30 y179.length co30] (0, 0) _ rfl (by (with_reducible repeat (first | refine blk_drewN ?_ _ | refine blk_drew ?_ | refine blk_alloc ?_ _)); refine blk_put (cs := #[.int .i64 t162, .int .i64 t163, .int .i64 x183002_50, .int .i64 t165, .slice Ao31 t166.length co31, .slice Ao81 x183005_3.length co81, .slice none 0 0]) ?_ 6 _ rfl; (with_reducible repeat (first | refine blk_drewN ?_ _ | refine blk_drew ?_ | refine blk_alloc ?_ _)); refine blk_put (cs := #[.int .i64 t162, .int .i64 t163, .int .i64 x183002_50, .int .i64 t165, .slice Ao31 t166.length co31, .slice none 0 0, .slice none 0 0]) ?_ 5 _ rfl; (with_reducible repeat (first | refine blk_drewN ?_ _ | refine blk_drew ?_ | refine blk_alloc ?_ _)); refine blk_put (cs := #[.int .i64 t162, .int .i64 t163, .int .i64 x183002_50, .int .i64 t165, .slice none 0 0, .slice none 0 0, .slice none 0 0]) ?_ 4 _ rfl; (with_reducible repeat (first | refine blk_drewN ?_ _ | refine blk_drew ?_ | refine blk_alloc ?_ _)); refine blk_put (cs := #[.int .i64 t162, .int .i64 t163, .int .i64 x183002_50, .int .i64 0, .slice none 0 0, .slice none 0 0, .slice none 0 0]) ?_ 3 _ rfl; (with_reducible repeat (first | refine blk_drewN ?_ _ | refine blk_drew ?_ | refine blk_alloc ?_ _)); refine blk_put (cs := #[.int .i64 t162, .int .i64 t163, .int .i64 0, .int .i64 0, .slice none 0 0, .slice none 0 0, .slice none 0 0]) ?_ 2 _ rfl; (with_reducible repeat (first | refine blk_drewN ?_ _ | refine blk_drew ?_ | refine blk_alloc ?_ _)); refine blk_put (cs := #[.int .i64 t162, .int .i64 0, .int .i64 0, .int .i64 0, .slice none 0 0, .slice none 0 0, .slice none 0 0]) ?_ 1 _ rfl; (with_reducible repeat (first | refine blk_drewN ?_ _ | refine blk_drew ?_ | refine blk_alloc ?_ _)); refine blk_put (cs := #[.int .i64 0, .int .i64 0, .int .i64 0, .int .i64 0, .slice none 0 0, .slice none 0 0, .slice none 0 0]) ?_ 0 _ rfl; (with_reducible repeat (first | refine blk_drewN ?_ _ | refine blk_drew ?_ | refine blk_alloc ?_ _)); exact BK161.out) Try.underlying26 rfl (by kernel_rfl)) rfl ?_;exact ⟨_, _, _, by first | rfl | (simp [errW_none, errW_some] <;> rfl) | (simp [*, errW_none, errW_some] <;> rfl), by (with_reducible repeat (first | apply Kd.R_alloc | apply Kd.R_drewN | apply Kd.R_drew)); exact Kd.R_mono (Kd.R_far (p := ⟨gb161, 6, none⟩) (Kd.R_far (p := ⟨gb161, 5, none⟩) (Kd.R_far (p := ⟨gb161, 4, none⟩) (Kd.R_far (p := ⟨gb161, 3, none⟩) (Kd.R_far (p := ⟨gb161, 2, none⟩) (Kd.R_far (p := ⟨gb161, 1, none⟩) (Kd.R_far (p := ⟨gb161, 0, none⟩) (Kd.R_types HO_183004.out BK161.out (by decide)) (fun _ hk => hk.2) (.int .i64 t162)) (fun _ hk => hk.2) (.int .i64 t163)) (fun _ hk => hk.2) (.int .i64 x183002_50)) (fun _ hk => hk.2) (.int .i64 t165)) (fun _ hk => hk.2) (.slice Ao31 t166.length co31)) (fun _ hk => hk.2) (.slice Ao81 x183005_3.length co81)) (fun _ hk => hk.2) (.slice Ao30 y179.length co30)) (fun _ hk => ⟨hk.1.1, hk.1.2⟩), by (with_reducible repeat (first | apply Kd.R_alloc | apply Kd.R_drewN | apply Kd.R_drew)); exact Kd.R_mono (Kd.R_far (p := ⟨gb161, 6, none⟩) (Kd.R_far (p := ⟨gb161, 5, none⟩) (Kd.R_far (p := ⟨gb161, 4, none⟩) (Kd.R_far (p := ⟨gb161, 3, none⟩) (Kd.R_far (p := ⟨gb161, 2, none⟩) (Kd.R_far (p := ⟨gb161, 1, none⟩) (Kd.R_far (p := ⟨gb161, 0, none⟩) (Kd.R_types HO_183005.out BK161.out (by decide)) (fun _ hk => hk.2) (.int .i64 t162)) (fun _ hk => hk.2) (.int .i64 t163)) (fun _ hk => hk.2) (.int .i64 x183002_50)) (fun _ hk => hk.2) (.int .i64 t165)) (fun _ hk => hk.2) (.slice Ao31 t166.length co31)) (fun _ hk => hk.2) (.slice Ao81 x183005_3.length co81)) (fun _ hk => hk.2) (.slice Ao30 y179.length co30)) (fun _ hk => ⟨hk.1.1, hk.1.2⟩), by (with_reducible repeat (first | apply Kd.N_alloc | apply Kd.N_drewN | apply Kd.N_drew)); exact Kd.N_mono (Kd.N_far (p := ⟨gb161, 6, none⟩) (Kd.N_far (p := ⟨gb161, 5, none⟩) (Kd.N_far (p := ⟨gb161, 4, none⟩) (Kd.N_far (p := ⟨gb161, 3, none⟩) (Kd.N_far (p := ⟨gb161, 2, none⟩) (Kd.N_far (p := ⟨gb161, 1, none⟩) (Kd.N_far (p := ⟨gb161, 0, none⟩) (Kd.N_mono HO_183006.out (fun k_ hk => (⟨hk, hk.2.2.2.2.2.1⟩ : _ ∧ k_ ≠ gb161))) (fun _ hk => hk.2) (.int .i64 t162)) (fun _ hk => hk.2) (.int .i64 t163)) (fun _ hk => hk.2) (.int .i64 x183002_50)) (fun _ hk => hk.2) (.int .i64 t165)) (fun _ hk => hk.2) (.slice Ao31 t166.length co31)) (fun _ hk => hk.2) (.slice Ao81 x183005_3.length co81)) (fun _ hk => hk.2) (.slice Ao30 y179.length co30)) (fun _ hk => ⟨hk.1.1, ⟨hk.1.2.1, hk.1.2.2.1⟩⟩), Z5x1⟩
    ·rw [if_neg c12] at H
     exact absurd H (by simp)
   ·rw [if_neg c11] at H
    exact absurd H (by simp)
  ·rw [if_neg c9] at H
   exact absurd H (by simp)
 ·rw [if_neg c8] at H
  exact absurd H (by simp)

end Go.Proofs.Ytfknjoebomicnaa.PFnExactMerge
