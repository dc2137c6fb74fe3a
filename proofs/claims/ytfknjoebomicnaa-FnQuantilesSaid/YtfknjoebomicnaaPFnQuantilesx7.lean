-- Written by this session's changed copy of the kit's printer (wip/patch_print.py): not the kit's own print.
import Derived.Test.YtfknjoebomicnaaPFnQuantilesx0
import Derived.Test.YtfknjoebomicnaaPFnQuantilesx1
import Derived.Test.YtfknjoebomicnaaPFnQuantilesx6
namespace Go.Proofs.Ytfknjoebomicnaa.PFnQuantiles
open Go.RowKit Go.Proofs.YtfknjoebomicnaaW.PrintWords Go.Proofs.YtfknjoebomicnaaW.PrintLast Go.Proofs.YtfknjoebomicnaaW.PrintMore
attribute [local go_sem] max2_int min2_int max_two min_two max_three min_three max_four min_four   -- for this text's walks alone
set_option linter.unusedVariables false
set_option linter.unusedSimpArgs false
theorem Z7x0 {p : Prop} (h : p := by repeat (first | (with_reducible first | exact HI311.out | apply IsS107.alloc | apply IsS107.drewN | apply IsS107.drew | apply IsS107.set_1 | apply IsS107.set_2 | refine IsS107.far ?_ NB311_307.out _ | refine IsS107.far ?_ NB311_327.out _) | exact HI311.out)) : p := h
theorem Z7x1 {p : Prop} (h : p := by repeat (first | (with_reducible first | exact HB.out | apply below_alloc | apply pw_below_drewN | apply below_drew1 | refine below_set ?_ GE337.out) | exact HB.out)) : p := h
theorem Z7x2 {p : Prop} (h : p := by repeat (first | (with_reducible first | exact HB.out | apply below_alloc | apply pw_below_drewN | apply below_drew1 | refine below_set ?_ (IsS107.ge HI311.out) | refine below_set ?_ GE307.out) | exact HB.out)) : p := h
theorem Z7x3 {p : Prop} (h : p := by repeat (first | (with_reducible first | exact HB.out | apply below_alloc | apply pw_below_drewN | apply below_drew1) | exact HB.out)) : p := h
theorem Z7x4 {p : Prop} (h : p := by repeat (first | (with_reducible first | exact HB.out | apply below_alloc | apply pw_below_drewN | apply below_drew1 | refine below_set ?_ (IsS107.ge HI311.out) | refine below_set ?_ GE307.out | refine below_set ?_ GE327.out) | exact HB.out)) : p := h
theorem Z7x5 {p : Prop} (h : p := by (with_reducible repeat (first | refine blk_drewN ?_ _ | refine blk_drew ?_ | refine blk_alloc ?_ _)); exact BK307.out) : p := h
theorem Z7x6 {p : Prop} (h : p := by repeat (first | (with_reducible first | exact HI311.out | apply IsS107.alloc | apply IsS107.drewN | apply IsS107.drew | apply IsS107.set_1 | apply IsS107.set_2 | refine IsS107.far ?_ NB311_307.out _) | exact HI311.out)) : p := h
theorem Z7x7 {p : Prop} (h : p := by (with_reducible repeat (first | refine blk_drewN ?_ _ | refine blk_drew ?_ | refine blk_alloc ?_ _)); exact BK337.out) : p := h
theorem Z7x8 {p : Prop} (h : p := by (try simp only [List.map_toArray, List.map_cons, List.map_nil]); first | done | rfl | (simp only [List.length_drop, List.length_take]; rfl)) : p := h
theorem Z7x9 {p : Prop} (h : p := by (with_reducible repeat (first | apply Kd.R_alloc | apply Kd.R_drewN | apply Kd.R_drew)); exact HO318.out) : p := h
theorem Z7x10 {p : Prop} (h : p := by (with_reducible repeat (first | apply Kd.R_alloc | apply Kd.R_drewN | apply Kd.R_drew)); exact HO321.out) : p := h

def spec_DrawQuantile.f (k : Nat) (l0 : List Int) : Option (Int × Int × Int × Int × List Int × List Int × (List (List Int)) × Int) := (spec_l1New.f k l0).bind fun bt308 => ((spec_l3Draw.f k bt308.1 bt308.2.1 bt308.2.2).bind fun bt312 => ((spec_l1PickInt.f bt308.1 bt312.2.2.2.2.2.2.2.1 bt312.2.2.2.2.2.2.2.2 (([1, 500, 990, 1000, 0, 1001, 250] : List Int))).bind fun bt331 => (some (bt312.1, bt312.2.1, bt312.2.2.1, bt312.2.2.2.1, bt312.2.2.2.2.1, bt312.2.2.2.2.2.1, bt312.2.2.2.2.2.2.1, bt331.1))))
theorem spec_DrawQuantile.mono : ∀ a0 k, LeO (spec_DrawQuantile.f k a0) (spec_DrawQuantile.f (k + 1) a0) := by
 intro a0 k
 unfold spec_DrawQuantile.f
 repeat' first
   | (with_reducible exact spec_l1New.mono _ _)
   | (with_reducible exact spec_l3Draw.mono _ _ _ _)
   | (with_reducible exact LeO.refl _)
   | (with_reducible exact LeO.none _)
   | (with_reducible refine LeO.ite ?_ ?_)
   | (with_reducible refine LeO.bind ?_ (fun _ => ?_))
   | exact spec_l1New.mono _ _
   | exact spec_l3Draw.mono _ _ _ _
   | exact LeO.none _
   | refine LeO.ite ?_ ?_
   | refine LeO.bind ?_ (fun _ => ?_)
set_option maxHeartbeats 8000000 in
set_option maxRecDepth 100000 in
theorem spec_DrawQuantile.calls (k : Nat) (A0 : Option Addr) (c0 : Nat) (l0 : List Int) (r1 : Int) (r2 : Int) (r3 : Int) (r4 : Int) (r5 : List Int) (r6 : List Int) (r7 : List (List Int)) (r8 : Int) (w : World) (hr0 : Kd.C (Kd.int .u8) w A0 l0.length l0) (hc0 : l0.length ≤ c0) (h : spec_DrawQuantile.f k l0 = some (r1, r2, r3, r4, r5, r6, r7, r8)) :
  Calls Try.prog 36 #[.slice A0 l0.length c0] w fun e w' => ∃ v4_ v5_ v6_ : Value, e = .returned (.tuple #[.agg #[.int .i64 r1, .int .i64 r2, .int .i64 r3, .int .i64 r4, v4_, v5_, v6_], .int .i64 r8]) ∧ Kd.R (Kd.int .i64) 3 w' w.heap.size (fun k_ => some k_ ≠ (v5_ : Value).ownBlock) v4_ r5 ∧ Kd.R (Kd.int .i64) 3 w' w.heap.size (fun k_ => some k_ ≠ (v4_ : Value).ownBlock) v5_ r6 ∧ Kd.S (Kd.slice 3 (Kd.int .i64)) 23 w' w.heap.size (fun k_ => some k_ ≠ (v4_ : Value).ownBlock ∧ some k_ ≠ (v5_ : Value).ownBlock) v6_ r7 ∧ Below w.heap.size w w' := by
 have hu26 := Try.underlying26
 have HR0 := Aside0.mk hr0
 have HC0 := Aside0.mk hc0
 clear hr0 hc0
 have HB := Aside0.mk (Below.refl w.heap.size w)
 have H : ((spec_l1New.f k l0).bind fun bt308 => ((spec_l3Draw.f k bt308.1 bt308.2.1 bt308.2.2).bind fun bt312 => ((spec_l1PickInt.f bt308.1 bt312.2.2.2.2.2.2.2.1 bt312.2.2.2.2.2.2.2.2 (([1, 500, 990, 1000, 0, 1001, 250] : List Int))).bind fun bt331 => (some (bt312.1, bt312.2.1, bt312.2.2.1, bt312.2.2.2.1, bt312.2.2.2.2.1, bt312.2.2.2.2.2.1, bt312.2.2.2.2.2.2.1, bt331.1))))) = some (r1, r2, r3, r4, r5, r6, r7, r8) := h
 clear h
 replace H := Option.bind_eq_some_iff.mp H
 obtain ⟨⟨t308, t309, t310⟩, A20, H⟩ := H
 replace H : ((spec_l3Draw.f k t308 t309 t310).bind fun bt312 => ((spec_l1PickInt.f t308 bt312.2.2.2.2.2.2.2.1 bt312.2.2.2.2.2.2.2.2 (([1, 500, 990, 1000, 0, 1001, 250] : List Int))).bind fun bt331 => (some (bt312.1, bt312.2.1, bt312.2.2.1, bt312.2.2.2.1, bt312.2.2.2.2.1, bt312.2.2.2.2.2.1, bt312.2.2.2.2.2.2.1, bt331.1)))) = some (r1, r2, r3, r4, r5, r6, r7, r8) := H
 have A2 := Aside0.mk A20
 clear A20
 replace H := Option.bind_eq_some_iff.mp H
 obtain ⟨⟨t312, t313, t314, t315, t316, t319, t322, t325, t326⟩, A30, H⟩ := H
 replace H : ((spec_l1PickInt.f t308 t325 t326 (([1, 500, 990, 1000, 0, 1001, 250] : List Int))).bind fun bt331 => (some (t312, t313, t314, t315, t316, t319, t322, bt331.1))) = some (r1, r2, r3, r4, r5, r6, r7, r8) := H
 have A3 := Aside0.mk A30
 clear A30
 obtain ⟨y328, hy328⟩ : ∃ y_ : List Int, y_ = (([1, 500, 990, 1000, 0, 1001, 250] : List Int)) := ⟨_, rfl⟩
 replace H : ((spec_l1PickInt.f t308 t325 t326 y328).bind fun bt331 => (some (t312, t313, t314, t315, t316, t319, t322, bt331.1))) = some (r1, r2, r3, r4, r5, r6, r7, r8) := by first | (rw [hy328]; with_reducible exact H) | (have H2_ := (Option.bind_some _ _).symm.trans H; rw [hy328]; with_reducible exact H2_) | (have H2_ := (Option.bind_some _ _).symm.trans H; with_reducible exact H2_) | with_reducible exact H | (rw [hy328]; exact H) | exact H
 have Ny328 := Aside0.mk hy328
 clear hy328
 replace H := Option.bind_eq_some_iff.mp H
 obtain ⟨⟨t331, t332, t333⟩, A40, H⟩ := H
 replace H : (some (t312, t313, t314, t315, t316, t319, t322, t331)) = some (r1, r2, r3, r4, r5, r6, r7, r8) := H
 have A4 := Aside0.mk A40
 clear A40
 simp only [Option.some.injEq, Prod.mk.injEq] at H
 obtain ⟨rfl, rfl, rfl, rfl, rfl, rfl, rfl, rfl⟩ := H
 go_enter Try.func36, Try.ntmps36
 try go_wp2_with (first | ((with_reducible refine gate_dst (N := 2) rfl ?_); refine box_event ?hg (N := 2) ?hd (cs := #[.int .i64 0, .int .i64 0, .int .i64 0, .int .i64 0, .slice none 0 0, .slice none 0 0, .slice none 0 0]) (t := 26) ?hr ?_; (case hd => rfl); (case hg => rfl); (case hr => first | (go_simp; done) | (go_simp; rfl)); intro gb307 hg w5 hbox hb; have n0_ := Aside0.mk (below_step Z7x3 hb); have n1_ := Aside0.mk (hbox); have n2_ := Aside0.mk ((by rw [hg]; exact (below_size Z7x3) : w.heap.size ≤ gb307)); have n3_ := Aside0.mk ((by rw [hg]; exact (below_size Z7x3) : w.heap.size ≤ gb307)); clear HB; have HB := n0_; have BK307 := n1_; have GW307 := n2_; have GE307 := n3_; clear n0_ n1_ n2_ n3_; clear hb hbox hg) | ((with_reducible refine gate_callee (f := 73) rfl ?_); refine goesL_ (some 7) rfl rfl Try.func73 (by kernel_rfl) rfl #[.slice A0 l0.length c0] rfl Z7x8 ?_; (with_reducible refine (spec_l1New.calls k _ _ l0 t308 t309 t310 w _ ?side1 ?side2 ?side3 A2.out).mono ?_); (case side1 => repeat (first | (with_reducible first | exact HB.out | apply below_alloc | apply pw_below_drewN | apply below_drew1 | refine below_set ?_ GE307.out) | exact HB.out)); (case side2 => exact HR0.out); (case side3 => exact HC0.out); rintro e w6 ⟨g311, rfl, hi, hb, hb2⟩; refine ⟨_, rfl, ?_⟩; have n0_ := Aside0.mk (blk_below (g := gb307) (o := .cells #[.int .i64 0, .int .i64 0, .int .i64 0, .int .i64 0, .slice none 0 0, .slice none 0 0, .slice none 0 0] 26 (0, 0)) Z7x5 hb2); have n1_ := Aside0.mk (hb); have n2_ := Aside0.mk (hi); have n3_ := Aside0.mk (IsS107.ne_blk hi (blk_below (g := gb307) (o := .cells #[.int .i64 0, .int .i64 0, .int .i64 0, .int .i64 0, .slice none 0 0, .slice none 0 0, .slice none 0 0] 26 (0, 0)) Z7x5 hb2) (by decide)); have n4_ := Aside0.mk (Ne.symm (IsS107.ne_blk hi (blk_below (g := gb307) (o := .cells #[.int .i64 0, .int .i64 0, .int .i64 0, .int .i64 0, .slice none 0 0, .slice none 0 0, .slice none 0 0] 26 (0, 0)) Z7x5 hb2) (by decide))); clear BK307; clear HB; have BK307 := n0_; have HB := n1_; have HI311 := n2_; have NB311_307 := n3_; have NB307_311 := n4_; clear n0_ n1_ n2_ n3_ n4_; (try clear hb); (try clear hb2); (try clear hk); (try clear hi)) | ((with_reducible refine gate_callee (f := 74) rfl ?_); refine goesL_ (some 9) rfl rfl Try.func74 (by kernel_rfl) rfl #[.pointer (some ⟨g311, 0, none⟩)] rfl Z7x8 ?_; (with_reducible refine (spec_l3Draw.calls k g311 t308 t309 t310 t312 t313 t314 t315 t316 t319 t322 t325 t326 w _ ?side1 ?side2 A3.out).mono ?_); (case side1 => exact Z7x6); (case side2 => exact Z7x2); rintro e w7 ⟨v317, v320, v323, rfl, ho0, ho1, ho2, hi, hb, hk⟩; refine ⟨_, rfl, ?_⟩; have n0_ := Aside0.mk (KeepBut.blk hk (g' := gb307) (o := .cells #[.int .i64 0, .int .i64 0, .int .i64 0, .int .i64 0, .slice none 0 0, .slice none 0 0, .slice none 0 0] 26 (0, 0)) Z7x5 NB307_311.out (by simp)); have n1_ := Aside0.mk (Kd.R_lower ho0 (below_size Z7x2)); have n2_ := Aside0.mk (Kd.R_lower ho1 (below_size Z7x2)); have n3_ := Aside0.mk (Kd.S_lower ho2 (below_size Z7x2)); have n4_ := Aside0.mk (hb); have n5_ := Aside0.mk (hi); clear BK307; clear HB; clear HI311; have BK307 := n0_; have HO318 := n1_; have HO321 := n2_; have HO324 := n3_; have HB := n4_; have HI311 := n5_; clear n0_ n1_ n2_ n3_ n4_ n5_; (try clear hb); (try clear hb2); (try clear hk); (try clear hi); (try clear ho0); (try clear ho1); (try clear ho2)) | ((with_reducible refine gate_dst (N := 5) rfl ?_); refine box_event ?hg (N := 5) ?hd (cs := #[.int .i64 0, .int .i64 0, .int .i64 0, .int .i64 0, .slice none 0 0, .slice none 0 0, .slice none 0 0]) (t := 26) ?hr ?_; (case hd => rfl); (case hg => rfl); (case hr => first | (go_simp; done) | (go_simp; rfl)); intro gb327 hg w8 hbox hb; have n0_ := Aside0.mk (Kd.R_below Z7x9 hb); have n1_ := Aside0.mk (Kd.R_below Z7x10 hb); have n2_ := Aside0.mk (Kd.S_below (by (with_reducible repeat (first | apply Kd.S_alloc | apply Kd.S_drewN | apply Kd.S_drew)); exact HO324.out) hb); have n3_ := Aside0.mk (blk_below (g := gb307) (o := .cells #[.int .i64 0, .int .i64 0, .int .i64 0, .int .i64 0, .slice none 0 0, .slice none 0 0, .slice none 0 0] 26 (0, 0)) Z7x5 hb); have n4_ := Aside0.mk (IsS107.below Z7x6 hb); have n5_ := Aside0.mk (below_step Z7x2 hb); have n6_ := Aside0.mk (hbox); have n7_ := Aside0.mk ((by rw [hg]; exact (below_size Z7x2) : w.heap.size ≤ gb327)); have n8_ := Aside0.mk ((by rw [hg]; exact (below_size Z7x2) : w.heap.size ≤ gb327)); have n9_ := Aside0.mk ((by rw [hg]; exact Nat.ne_of_lt (blk_lt (g := gb307) (o := .cells #[.int .i64 0, .int .i64 0, .int .i64 0, .int .i64 0, .slice none 0 0, .slice none 0 0, .slice none 0 0] 26 (0, 0)) Z7x5) : gb307 ≠ gb327)); have n10_ := Aside0.mk ((by rw [hg]; exact Nat.ne_of_gt (blk_lt (g := gb307) (o := .cells #[.int .i64 0, .int .i64 0, .int .i64 0, .int .i64 0, .slice none 0 0, .slice none 0 0, .slice none 0 0] 26 (0, 0)) Z7x5) : gb327 ≠ gb307)); have n11_ := Aside0.mk ((by rw [hg]; exact Nat.ne_of_lt (IsS107.lt (show IsS107 w _ g311 t308 t325 t326 from Z7x6)) : g311 ≠ gb327)); have n12_ := Aside0.mk ((by rw [hg]; exact Nat.ne_of_gt (IsS107.lt (show IsS107 w _ g311 t308 t325 t326 from Z7x6)) : gb327 ≠ g311)); clear HO318; clear HO321; clear HO324; clear BK307; clear HI311; clear HB; have HO318 := n0_; have HO321 := n1_; have HO324 := n2_; have BK307 := n3_; have HI311 := n4_; have HB := n5_; have BK327 := n6_; have GW327 := n7_; have GE327 := n8_; have NB307_327 := n9_; have NB327_307 := n10_; have NB311_327 := n11_; have NB327_311 := n12_; clear n0_ n1_ n2_ n3_ n4_ n5_ n6_ n7_ n8_ n9_ n10_ n11_ n12_; clear hb hbox hg; have hnb9 := NB327_307.out; have hnc9 := NB307_327.out; have hnb10 := NB327_311.out; have hnc10 := NB311_327.out; have hcz11_0 : w8.cell? ⟨gb327, 0, none⟩ = some (.int .i64 0) := (blk_cell BK327.out 0).trans rfl; have hcz11_1 : w8.cell? ⟨gb327, 1, none⟩ = some (.int .i64 0) := (blk_cell BK327.out 1).trans rfl; have hcz11_2 : w8.cell? ⟨gb327, 2, none⟩ = some (.int .i64 0) := (blk_cell BK327.out 2).trans rfl; have hcz11_3 : w8.cell? ⟨gb327, 3, none⟩ = some (.int .i64 0) := (blk_cell BK327.out 3).trans rfl; have hcz11_4 : w8.cell? ⟨gb327, 4, none⟩ = some (.slice none 0 0) := (blk_cell BK327.out 4).trans rfl; have hcz11_5 : w8.cell? ⟨gb327, 5, none⟩ = some (.slice none 0 0) := (blk_cell BK327.out 5).trans rfl; have hcz11_6 : w8.cell? ⟨gb327, 6, none⟩ = some (.slice none 0 0) := (blk_cell BK327.out 6).trans rfl; have hfz11_0 := blk_frozen BK327.out 0; have hfz11_1 := blk_frozen BK327.out 1; have hfz11_2 := blk_frozen BK327.out 2; have hfz11_3 := blk_frozen BK327.out 3; have hfz11_4 := blk_frozen BK327.out 4; have hfz11_5 := blk_frozen BK327.out 5; have hfz11_6 := blk_frozen BK327.out 6; obtain ⟨Ao12, co12, eo12⟩ := Kd.R_slice HO318.out; subst eo12; obtain ⟨Ao13, co13, eo13⟩ := Kd.R_slice HO321.out; subst eo13; obtain ⟨Ao14, co14, eo14⟩ := Kd.S_slice HO324.out; subst eo14))
 have n0_ : Aside0 (Kd.R (Kd.int .i64) 3 (((((((w8.setCell ⟨gb327, 0, none⟩ (.int .i64 t312)).setCell ⟨gb327, 1, none⟩ (.int .i64 t313)).setCell ⟨gb327, 2, none⟩ (.int .i64 t314)).setCell ⟨gb327, 3, none⟩ (.int .i64 t315)).setCell ⟨gb327, 4, none⟩ (.slice Ao12 t316.length co12)).setCell ⟨gb327, 5, none⟩ (.slice Ao13 t319.length co13)).setCell ⟨gb327, 6, none⟩ (.slice Ao14 t322.length co14)) w.heap.size (fun k_ => some k_ ≠ (.slice Ao13 t319.length co13 : Value).ownBlock) (.slice Ao12 t316.length co12) t316) := ⟨by (with_reducible repeat (first | apply Kd.R_alloc | apply Kd.R_drewN | apply Kd.R_drew)); exact Kd.R_mono (Kd.R_far (p := ⟨gb327, 6, none⟩) (Kd.R_far (p := ⟨gb327, 5, none⟩) (Kd.R_far (p := ⟨gb327, 4, none⟩) (Kd.R_far (p := ⟨gb327, 3, none⟩) (Kd.R_far (p := ⟨gb327, 2, none⟩) (Kd.R_far (p := ⟨gb327, 1, none⟩) (Kd.R_far (p := ⟨gb327, 0, none⟩) (Kd.R_types HO318.out BK327.out (by decide)) (fun _ hk => hk.2) (.int .i64 t312)) (fun _ hk => hk.2) (.int .i64 t313)) (fun _ hk => hk.2) (.int .i64 t314)) (fun _ hk => hk.2) (.int .i64 t315)) (fun _ hk => hk.2) (.slice Ao12 t316.length co12)) (fun _ hk => hk.2) (.slice Ao13 t319.length co13)) (fun _ hk => hk.2) (.slice Ao14 t322.length co14)) (fun _ hk => hk.1)⟩
 have n1_ : Aside0 (Kd.R (Kd.int .i64) 3 (((((((w8.setCell ⟨gb327, 0, none⟩ (.int .i64 t312)).setCell ⟨gb327, 1, none⟩ (.int .i64 t313)).setCell ⟨gb327, 2, none⟩ (.int .i64 t314)).setCell ⟨gb327, 3, none⟩ (.int .i64 t315)).setCell ⟨gb327, 4, none⟩ (.slice Ao12 t316.length co12)).setCell ⟨gb327, 5, none⟩ (.slice Ao13 t319.length co13)).setCell ⟨gb327, 6, none⟩ (.slice Ao14 t322.length co14)) w.heap.size (fun k_ => some k_ ≠ (.slice Ao12 t316.length co12 : Value).ownBlock) (.slice Ao13 t319.length co13) t319) := ⟨by (with_reducible repeat (first | apply Kd.R_alloc | apply Kd.R_drewN | apply Kd.R_drew)); exact Kd.R_mono (Kd.R_far (p := ⟨gb327, 6, none⟩) (Kd.R_far (p := ⟨gb327, 5, none⟩) (Kd.R_far (p := ⟨gb327, 4, none⟩) (Kd.R_far (p := ⟨gb327, 3, none⟩) (Kd.R_far (p := ⟨gb327, 2, none⟩) (Kd.R_far (p := ⟨gb327, 1, none⟩) (Kd.R_far (p := ⟨gb327, 0, none⟩) (Kd.R_types HO321.out BK327.out (by decide)) (fun _ hk => hk.2) (.int .i64 t312)) (fun _ hk => hk.2) (.int .i64 t313)) (fun _ hk => hk.2) (.int .i64 t314)) (fun _ hk => hk.2) (.int .i64 t315)) (fun _ hk => hk.2) (.slice Ao12 t316.length co12)) (fun _ hk => hk.2) (.slice Ao13 t319.length co13)) (fun _ hk => hk.2) (.slice Ao14 t322.length co14)) (fun _ hk => hk.1)⟩
 have n2_ : Aside0 (Kd.S (Kd.slice 3 (Kd.int .i64)) 23 (((((((w8.setCell ⟨gb327, 0, none⟩ (.int .i64 t312)).setCell ⟨gb327, 1, none⟩ (.int .i64 t313)).setCell ⟨gb327, 2, none⟩ (.int .i64 t314)).setCell ⟨gb327, 3, none⟩ (.int .i64 t315)).setCell ⟨gb327, 4, none⟩ (.slice Ao12 t316.length co12)).setCell ⟨gb327, 5, none⟩ (.slice Ao13 t319.length co13)).setCell ⟨gb327, 6, none⟩ (.slice Ao14 t322.length co14)) w.heap.size (fun k_ => some k_ ≠ (.slice Ao12 t316.length co12 : Value).ownBlock ∧ some k_ ≠ (.slice Ao13 t319.length co13 : Value).ownBlock) (.slice Ao14 t322.length co14) t322) := ⟨by (with_reducible repeat (first | apply Kd.S_alloc | apply Kd.S_drewN | apply Kd.S_drew)); exact Kd.S_mono (Kd.S_far (p := ⟨gb327, 6, none⟩) (Kd.S_far (p := ⟨gb327, 5, none⟩) (Kd.S_far (p := ⟨gb327, 4, none⟩) (Kd.S_far (p := ⟨gb327, 3, none⟩) (Kd.S_far (p := ⟨gb327, 2, none⟩) (Kd.S_far (p := ⟨gb327, 1, none⟩) (Kd.S_far (p := ⟨gb327, 0, none⟩) (Kd.S_types HO324.out BK327.out (by decide)) (fun _ hk => hk.2) (.int .i64 t312)) (fun _ hk => hk.2) (.int .i64 t313)) (fun _ hk => hk.2) (.int .i64 t314)) (fun _ hk => hk.2) (.int .i64 t315)) (fun _ hk => hk.2) (.slice Ao12 t316.length co12)) (fun _ hk => hk.2) (.slice Ao13 t319.length co13)) (fun _ hk => hk.2) (.slice Ao14 t322.length co14)) (fun _ hk => ⟨hk.1.1, hk.1.2⟩)⟩
 have n3_ : Aside0 ((((((((w8.setCell ⟨gb327, 0, none⟩ (.int .i64 t312)).setCell ⟨gb327, 1, none⟩ (.int .i64 t313)).setCell ⟨gb327, 2, none⟩ (.int .i64 t314)).setCell ⟨gb327, 3, none⟩ (.int .i64 t315)).setCell ⟨gb327, 4, none⟩ (.slice Ao12 t316.length co12)).setCell ⟨gb327, 5, none⟩ (.slice Ao13 t319.length co13)).setCell ⟨gb327, 6, none⟩ (.slice Ao14 t322.length co14)).heap[gb307]? = some (.cells #[.int .i64 0, .int .i64 0, .int .i64 0, .int .i64 0, .slice none 0 0, .slice none 0 0, .slice none 0 0] 26 (0, 0))) := ⟨by (with_reducible repeat (first | refine blk_drewN ?_ _ | refine blk_drew ?_ | refine blk_alloc ?_ _)); refine blk_far ?_ NB307_327.out _; (with_reducible repeat (first | refine blk_drewN ?_ _ | refine blk_drew ?_ | refine blk_alloc ?_ _)); refine blk_far ?_ NB307_327.out _; (with_reducible repeat (first | refine blk_drewN ?_ _ | refine blk_drew ?_ | refine blk_alloc ?_ _)); refine blk_far ?_ NB307_327.out _; (with_reducible repeat (first | refine blk_drewN ?_ _ | refine blk_drew ?_ | refine blk_alloc ?_ _)); refine blk_far ?_ NB307_327.out _; (with_reducible repeat (first | refine blk_drewN ?_ _ | refine blk_drew ?_ | refine blk_alloc ?_ _)); refine blk_far ?_ NB307_327.out _; (with_reducible repeat (first | refine blk_drewN ?_ _ | refine blk_drew ?_ | refine blk_alloc ?_ _)); refine blk_far ?_ NB307_327.out _; (with_reducible repeat (first | refine blk_drewN ?_ _ | refine blk_drew ?_ | refine blk_alloc ?_ _)); refine blk_far ?_ NB307_327.out _; (with_reducible repeat (first | refine blk_drewN ?_ _ | refine blk_drew ?_ | refine blk_alloc ?_ _)); exact BK307.out⟩
 have n4_ : Aside0 ((((((((w8.setCell ⟨gb327, 0, none⟩ (.int .i64 t312)).setCell ⟨gb327, 1, none⟩ (.int .i64 t313)).setCell ⟨gb327, 2, none⟩ (.int .i64 t314)).setCell ⟨gb327, 3, none⟩ (.int .i64 t315)).setCell ⟨gb327, 4, none⟩ (.slice Ao12 t316.length co12)).setCell ⟨gb327, 5, none⟩ (.slice Ao13 t319.length co13)).setCell ⟨gb327, 6, none⟩ (.slice Ao14 t322.length co14)).heap[gb327]? = some (.cells #[.int .i64 t312, .int .i64 t313, .int .i64 t314, .int .i64 t315, .slice Ao12 t316.length co12, .slice Ao13 t319.length co13, .slice Ao14 t322.length co14] 26 (0, 0))) := ⟨by (with_reducible repeat (first | refine blk_drewN ?_ _ | refine blk_drew ?_ | refine blk_alloc ?_ _)); refine blk_put (cs := #[.int .i64 t312, .int .i64 t313, .int .i64 t314, .int .i64 t315, .slice Ao12 t316.length co12, .slice Ao13 t319.length co13, .slice none 0 0]) ?_ 6 _ rfl; (with_reducible repeat (first | refine blk_drewN ?_ _ | refine blk_drew ?_ | refine blk_alloc ?_ _)); refine blk_put (cs := #[.int .i64 t312, .int .i64 t313, .int .i64 t314, .int .i64 t315, .slice Ao12 t316.length co12, .slice none 0 0, .slice none 0 0]) ?_ 5 _ rfl; (with_reducible repeat (first | refine blk_drewN ?_ _ | refine blk_drew ?_ | refine blk_alloc ?_ _)); refine blk_put (cs := #[.int .i64 t312, .int .i64 t313, .int .i64 t314, .int .i64 t315, .slice none 0 0, .slice none 0 0, .slice none 0 0]) ?_ 4 _ rfl; (with_reducible repeat (first | refine blk_drewN ?_ _ | refine blk_drew ?_ | refine blk_alloc ?_ _)); refine blk_put (cs := #[.int .i64 t312, .int .i64 t313, .int .i64 t314, .int .i64 0, .slice none 0 0, .slice none 0 0, .slice none 0 0]) ?_ 3 _ rfl; (with_reducible repeat (first | refine blk_drewN ?_ _ | refine blk_drew ?_ | refine blk_alloc ?_ _)); refine blk_put (cs := #[.int .i64 t312, .int .i64 t313, .int .i64 0, .int .i64 0, .slice none 0 0, .slice none 0 0, .slice none 0 0]) ?_ 2 _ rfl; (with_reducible repeat (first | refine blk_drewN ?_ _ | refine blk_drew ?_ | refine blk_alloc ?_ _)); refine blk_put (cs := #[.int .i64 t312, .int .i64 0, .int .i64 0, .int .i64 0, .slice none 0 0, .slice none 0 0, .slice none 0 0]) ?_ 1 _ rfl; (with_reducible repeat (first | refine blk_drewN ?_ _ | refine blk_drew ?_ | refine blk_alloc ?_ _)); refine blk_put (cs := #[.int .i64 0, .int .i64 0, .int .i64 0, .int .i64 0, .slice none 0 0, .slice none 0 0, .slice none 0 0]) ?_ 0 _ rfl; (with_reducible repeat (first | refine blk_drewN ?_ _ | refine blk_drew ?_ | refine blk_alloc ?_ _)); exact BK327.out⟩
 have n5_ : Aside0 (IsS107 w (((((((w8.setCell ⟨gb327, 0, none⟩ (.int .i64 t312)).setCell ⟨gb327, 1, none⟩ (.int .i64 t313)).setCell ⟨gb327, 2, none⟩ (.int .i64 t314)).setCell ⟨gb327, 3, none⟩ (.int .i64 t315)).setCell ⟨gb327, 4, none⟩ (.slice Ao12 t316.length co12)).setCell ⟨gb327, 5, none⟩ (.slice Ao13 t319.length co13)).setCell ⟨gb327, 6, none⟩ (.slice Ao14 t322.length co14)) g311 t308 t325 t326) := ⟨Z7x0⟩
 have n6_ : Aside0 (Below w.heap.size w (((((((w8.setCell ⟨gb327, 0, none⟩ (.int .i64 t312)).setCell ⟨gb327, 1, none⟩ (.int .i64 t313)).setCell ⟨gb327, 2, none⟩ (.int .i64 t314)).setCell ⟨gb327, 3, none⟩ (.int .i64 t315)).setCell ⟨gb327, 4, none⟩ (.slice Ao12 t316.length co12)).setCell ⟨gb327, 5, none⟩ (.slice Ao13 t319.length co13)).setCell ⟨gb327, 6, none⟩ (.slice Ao14 t322.length co14))) := ⟨Z7x4⟩
 (try clear HO318)
 (try clear HO321)
 (try clear HO324)
 (try clear BK307)
 (try clear BK327)
 (try clear HI311)
 (try clear HB)
 generalize (((((((w8.setCell ⟨gb327, 0, none⟩ (.int .i64 t312)).setCell ⟨gb327, 1, none⟩ (.int .i64 t313)).setCell ⟨gb327, 2, none⟩ (.int .i64 t314)).setCell ⟨gb327, 3, none⟩ (.int .i64 t315)).setCell ⟨gb327, 4, none⟩ (.slice Ao12 t316.length co12)).setCell ⟨gb327, 5, none⟩ (.slice Ao13 t319.length co13)).setCell ⟨gb327, 6, none⟩ (.slice Ao14 t322.length co14)) = w15 at n0_ n1_ n2_ n3_ n4_ n5_ n6_ ⊢
 have HO318 := n0_
 have HO321 := n1_
 have HO324 := n2_
 have BK307 := n3_
 have BK327 := n4_
 have HI311 := n5_
 have HB := n6_
 clear n0_ n1_ n2_ n3_ n4_ n5_ n6_
 have n0_ := Aside0.mk (Kd.R_drew HO318.out)
 have n1_ := Aside0.mk (Kd.R_drew HO321.out)
 have n2_ := Aside0.mk (Kd.S_drew HO324.out)
 have n3_ := Aside0.mk (blk_drew BK307.out)
 have n4_ := Aside0.mk (blk_drew BK327.out)
 have n5_ := Aside0.mk (IsS107.drew HI311.out)
 have n6_ := Aside0.mk (below_drew1 HB.out)
 clear HO318
 clear HO321
 clear HO324
 clear BK307
 clear BK327
 clear HI311
 clear HB
 have HO318 := n0_
 have HO321 := n1_
 have HO324 := n2_
 have BK307 := n3_
 have BK327 := n4_
 have HI311 := n5_
 have HB := n6_
 clear n0_ n1_ n2_ n3_ n4_ n5_ n6_
 refine start_ (n := 6) (S := fun w' => w'.cell? ⟨gb327, 0, none⟩ = some (.int .i64 t312) ∧ w'.cell? ⟨gb327, 1, none⟩ = some (.int .i64 t313) ∧ w'.cell? ⟨gb327, 2, none⟩ = some (.int .i64 t314) ∧ w'.cell? ⟨gb327, 3, none⟩ = some (.int .i64 t315) ∧ w'.cell? ⟨gb327, 4, none⟩ = some (.slice Ao12 t316.length co12) ∧ w'.cell? ⟨gb327, 5, none⟩ = some (.slice Ao13 t319.length co13) ∧ w'.cell? ⟨gb327, 6, none⟩ = some (.slice Ao14 t322.length co14)) (ds := []) #[false, false, false, false, false, false] (by kernel_rfl) rfl rfl ⟨(blk_cell BK327.out 0).trans rfl, (blk_cell BK327.out 1).trans rfl, (blk_cell BK327.out 2).trans rfl, (blk_cell BK327.out 3).trans rfl, (blk_cell BK327.out 4).trans rfl, (blk_cell BK327.out 5).trans rfl, (blk_cell BK327.out 6).trans rfl⟩ (fun hHeld => ?_)
 generalize w15.drew = w16 at HO318 HO321 HO324 BK307 BK327 HI311 HB hHeld ⊢
 refine pure_ (i := 1) (N := some 11) (v := ?_) (a' := ?_) #[false, true, false, false, false, false] rfl rfl (by kernel_rfl) (fun _ _ _ h => h) (Or.inl ⟨by rfl, ?_⟩) ?_ ?_
 rotate_left
 ·intro w'
  go_simp
  with_reducible rfl
 rotate_left
 ·simp only [Act.put, List.setIfInBounds_toArray, List.set_cons_zero, List.set_cons_succ, i64_w, i32_w]
  rfl
 refine take_ (i := 0) (N := some 10) (v := ?_) (a' := ?_) #[true, true, false, false, false, false] rfl rfl (by kernel_rfl) (fun _ _ _ h => h) (Or.inl ⟨by rfl, ?_⟩) hHeld ?_ ?_
 rotate_left
 ·rintro w' ⟨s0, s1, s2, s3, s4, s5, s6⟩
  go_simp
  with_reducible rfl
 rotate_left
 ·simp only [Act.put, List.setIfInBounds_toArray, List.set_cons_zero, List.set_cons_succ, i64_w, i32_w]
  rfl
 refine one_ (i := 2) (N := some 12) #[true, true, true, false, false, false] rfl rfl (by kernel_rfl) (by decide) (fun K hK => ?_)
 refine Kd.R_lit_step (Kd.int .i64) _ 3 ?hg (N := 12) ?hd (xs := ([1, 500, 990, 1000, 0, 1001, 250] : List Int)) (inner := [.int .i64 1, .int .i64 500, .int .i64 990, .int .i64 1000, .int .i64 0, .int .i64 1001, .int .i64 250]) (ok := fun _ => True) (okp := fun _ => True) ?hr ?hp (fun _ hk => hk) trivial (Below.refl _ _) (Nat.le_refl _) (by simp) ?_; (case hd => rfl); (case hg => rfl); (case hr => first | (go_simp; done) | (go_simp; rfl)); (case hp => exact (Reps.one (show Kd.M (Kd.int .i64) _ _ _ 1 [.int .i64 1] from rfl) (Reps.one (show Kd.M (Kd.int .i64) _ _ _ 500 [.int .i64 500] from rfl) (Reps.one (show Kd.M (Kd.int .i64) _ _ _ 990 [.int .i64 990] from rfl) (Reps.one (show Kd.M (Kd.int .i64) _ _ _ 1000 [.int .i64 1000] from rfl) (Reps.one (show Kd.M (Kd.int .i64) _ _ _ 0 [.int .i64 0] from rfl) (Reps.one (show Kd.M (Kd.int .i64) _ _ _ 1001 [.int .i64 1001] from rfl) (Reps.one (show Kd.M (Kd.int .i64) _ _ _ 250 [.int .i64 250] from rfl) (Reps.none _ _)))))))))
 intro v329 w17 ho18 hb hg_ hnew_
 clear hg_ hnew_
 (first | rw [← Ny328.out] at ho18 | (simp only [Int.reduceToNat] at ho18; rw [← Ny328.out] at ho18))
 have n0_ := Aside0.mk (Kd.R_elder' Z7x9 (Kd.R_base ho18) hb)
 have n1_ := Aside0.mk (Kd.R_elder' Z7x10 (Kd.R_base ho18) hb)
 have n2_ := Aside0.mk (Kd.S_elder' (by (with_reducible repeat (first | apply Kd.S_alloc | apply Kd.S_drewN | apply Kd.S_drew)); exact HO324.out) (Kd.R_base ho18) hb)
 have n3_ := Aside0.mk (Kd.R_lower (Kd.R_new' (Kd.R_new' ho18 (Kd.R_lt Z7x9)) (Kd.R_lt Z7x10)) (below_size Z7x4))
 have n4_ := Aside0.mk (blk_below (g := gb307) (o := .cells #[.int .i64 0, .int .i64 0, .int .i64 0, .int .i64 0, .slice none 0 0, .slice none 0 0, .slice none 0 0] 26 (0, 0)) Z7x5 hb)
 have n5_ := Aside0.mk (IsS107.below Z7x0 hb)
 have n6_ := Aside0.mk (blk_below (g := gb327) (o := .cells #[.int .i64 t312, .int .i64 t313, .int .i64 t314, .int .i64 t315, .slice Ao12 t316.length co12, .slice Ao13 t319.length co13, .slice Ao14 t322.length co14] 26 (0, 0)) (by (with_reducible repeat (first | refine blk_drewN ?_ _ | refine blk_drew ?_ | refine blk_alloc ?_ _)); exact BK327.out) hb)
 have n7_ := Aside0.mk (below_step Z7x4 hb)
 clear HO318
 clear HO321
 clear HO324
 clear BK307
 clear HI311
 clear BK327
 clear HB
 have HO318 := n0_
 have HO321 := n1_
 have HO324 := n2_
 have HO330 := n3_
 have BK307 := n4_
 have HI311 := n5_
 have BK327 := n6_
 have HB := n7_
 clear n0_ n1_ n2_ n3_ n4_ n5_ n6_ n7_
 clear hb ho18
 obtain ⟨Ao19, co19, eo19⟩ := Kd.R_slice HO330.out
 (first | subst eo19 | (injection eo19 with f1_ f2_ f3_; have f4_ := f1_.symm; have f5_ := f3_.symm; clear f1_ f2_ f3_; subst f4_; subst f5_))
 refine hK.out _ _ ⟨(blk_cell BK327.out 0).trans rfl, (blk_cell BK327.out 1).trans rfl, (blk_cell BK327.out 2).trans rfl, (blk_cell BK327.out 3).trans rfl, (blk_cell BK327.out 4).trans rfl, (blk_cell BK327.out 5).trans rfl, (blk_cell BK327.out 6).trans rfl⟩ (fun hHeld => ?_)
 clear hK K
 refine norm_ (a' := ?_) ?_ ?_
 rotate_left
 ·show Act.put _ (some 12) _ = _
  simp only [Act.put, List.setIfInBounds_toArray, List.set_cons_zero, List.set_cons_succ, i64_w, i32_w]
  rfl
 refine one_ (i := 3) (N := some 13) #[true, true, true, true, false, false] rfl rfl (by kernel_rfl) (by decide) (fun K hK => ?_)
 refine goes_ Try.func75 (by kernel_rfl) rfl #[.pointer (some ⟨g311, 0, none⟩), .slice Ao19 y328.length co19] (by rfl) rfl rfl Z7x8 ?_
 with_reducible refine (spec_l1PickInt.calls g311 t308 t325 t326 _ _ y328 t331 t332 t333 w _ ?side1 ?side2 ?side3 ?side4 ?side5 A4.out).mono ?_
 (case side1 => exact Z7x0)
 (case side2 => exact Z7x4)
 (case side3 => repeat (first | exact (Kd.R_reads' HO330.out).2.2 | (with_reducible refine Kd.C_alloc ?_ _) | (with_reducible refine Kd.C_drewN ?_ _) | (with_reducible refine Kd.C_drew ?_)))
 (case side4 => exact (Kd.R_reads' HO330.out).2.1)
 (case side5 => exact far_slice (IsS107.own_ne HI311.out HO330.out (by decide)))
 rintro e w20 ⟨rfl, hi, hb, hk⟩
 refine ⟨_, rfl, ?_⟩
 have n0_ := Aside0.mk (KeepBut.blk hk (g' := gb307) (o := .cells #[.int .i64 0, .int .i64 0, .int .i64 0, .int .i64 0, .slice none 0 0, .slice none 0 0, .slice none 0 0] 26 (0, 0)) Z7x5 NB307_311.out (by simp))
 have n1_ := Aside0.mk (Kd.R_mono (Kd.R_keep (IsS107.apart (show IsS107 w _ g311 t308 t325 t326 from Z7x0) Z7x9 (by decide)) hk (fun _ h => h.2)) (fun _ h => h.1))
 have n2_ := Aside0.mk (Kd.R_mono (Kd.R_keep (IsS107.apart (show IsS107 w _ g311 t308 t325 t326 from Z7x0) Z7x10 (by decide)) hk (fun _ h => h.2)) (fun _ h => h.1))
 have n3_ := Aside0.mk (Kd.S_mono (Kd.S_keep (IsS107.apartS (show IsS107 w _ g311 t308 t325 t326 from Z7x0) (by (with_reducible repeat (first | apply Kd.S_alloc | apply Kd.S_drewN | apply Kd.S_drew)); exact HO324.out) (by decide)) hk (fun _ h => h.2)) (fun _ h => h.1))
 have n4_ := Aside0.mk (KeepBut.blk hk (g' := gb327) (o := .cells #[.int .i64 t312, .int .i64 t313, .int .i64 t314, .int .i64 t315, .slice Ao12 t316.length co12, .slice Ao13 t319.length co13, .slice Ao14 t322.length co14] 26 (0, 0)) (by (with_reducible repeat (first | refine blk_drewN ?_ _ | refine blk_drew ?_ | refine blk_alloc ?_ _)); exact BK327.out) NB327_311.out (by simp))
 have n5_ := Aside0.mk (Kd.R_mono (Kd.R_keep (IsS107.apart (show IsS107 w _ g311 t308 t325 t326 from Z7x0) (by (with_reducible repeat (first | apply Kd.R_alloc | apply Kd.R_drewN | apply Kd.R_drew)); exact HO330.out) (by decide)) hk (fun _ h => h.2)) (fun _ h => h.1))
 have n6_ := Aside0.mk (hb)
 have n7_ := Aside0.mk (hi)
 clear BK307
 clear HO318
 clear HO321
 clear HO324
 clear BK327
 clear HO330
 clear HB
 clear HI311
 have BK307 := n0_
 have HO318 := n1_
 have HO321 := n2_
 have HO324 := n3_
 have BK327 := n4_
 have HO330 := n5_
 have HB := n6_
 have HI311 := n7_
 clear n0_ n1_ n2_ n3_ n4_ n5_ n6_ n7_
 (try clear hb)
 (try clear hb2)
 (try clear hk)
 (try clear hi)
 refine hK.out _ _ ⟨(blk_cell BK327.out 0).trans rfl, (blk_cell BK327.out 1).trans rfl, (blk_cell BK327.out 2).trans rfl, (blk_cell BK327.out 3).trans rfl, (blk_cell BK327.out 4).trans rfl, (blk_cell BK327.out 5).trans rfl, (blk_cell BK327.out 6).trans rfl⟩ (fun hHeld => ?_)
 clear hK K
 refine norm_ (a' := ?_) ?_ ?_
 rotate_left
 ·show Act.put _ (some 13) _ = _
  simp only [Act.put, List.setIfInBounds_toArray, List.set_cons_zero, List.set_cons_succ, i64_w, i32_w]
  rfl
 refine one_ (i := 4) (N := none) #[true, true, true, true, true, false] rfl rfl (by kernel_rfl) (by decide) (fun K hK => ?_)
 have hs21 : w20.cell? ⟨gb307, 0, none⟩ = some (.int .i64 0) := (blk_cell BK307.out 0).trans rfl
 have hfs21 := blk_frozen BK307.out 0
 have hns21_1 := NB327_307.out
 have hms21_1 := NB307_327.out
 have hs22 : w20.cell? ⟨gb307, 1, none⟩ = some (.int .i64 0) := (blk_cell BK307.out 1).trans rfl
 have hfs22 := blk_frozen BK307.out 1
 have hns22_1 := NB327_307.out
 have hms22_1 := NB307_327.out
 have hs23 : w20.cell? ⟨gb307, 2, none⟩ = some (.int .i64 0) := (blk_cell BK307.out 2).trans rfl
 have hfs23 := blk_frozen BK307.out 2
 have hns23_1 := NB327_307.out
 have hms23_1 := NB307_327.out
 have hs24 : w20.cell? ⟨gb307, 3, none⟩ = some (.int .i64 0) := (blk_cell BK307.out 3).trans rfl
 have hfs24 := blk_frozen BK307.out 3
 have hns24_1 := NB327_307.out
 have hms24_1 := NB307_327.out
 have hs25 : w20.cell? ⟨gb307, 4, none⟩ = some (.slice none 0 0) := (blk_cell BK307.out 4).trans rfl
 have hfs25 := blk_frozen BK307.out 4
 have hns25_1 := NB327_307.out
 have hms25_1 := NB307_327.out
 have hs26 : w20.cell? ⟨gb307, 5, none⟩ = some (.slice none 0 0) := (blk_cell BK307.out 5).trans rfl
 have hfs26 := blk_frozen BK307.out 5
 have hns26_1 := NB327_307.out
 have hms26_1 := NB307_327.out
 have hs27 : w20.cell? ⟨gb307, 6, none⟩ = some (.slice none 0 0) := (blk_cell BK307.out 6).trans rfl
 have hfs27 := blk_frozen BK307.out 6
 have hns27_1 := NB327_307.out
 have hms27_1 := NB307_327.out
 refine skip_ (w1 := ?_) (by rfl) rfl ?_ ?_
 rotate_left
 ·go_simp
  rfl
 refine hK.out _ _ ⟨((cell_far (p := ⟨gb307, _, none⟩) NB327_307.out _).trans (((cell_far (p := ⟨gb307, _, none⟩) NB327_307.out _).trans (((cell_far (p := ⟨gb307, _, none⟩) NB327_307.out _).trans (((cell_far (p := ⟨gb307, _, none⟩) NB327_307.out _).trans (((cell_far (p := ⟨gb307, _, none⟩) NB327_307.out _).trans (((cell_far (p := ⟨gb307, _, none⟩) NB327_307.out _).trans (((cell_far (p := ⟨gb307, _, none⟩) NB327_307.out _).trans (hHeld.1)))))))))))))), ((cell_far (p := ⟨gb307, _, none⟩) NB327_307.out _).trans (((cell_far (p := ⟨gb307, _, none⟩) NB327_307.out _).trans (((cell_far (p := ⟨gb307, _, none⟩) NB327_307.out _).trans (((cell_far (p := ⟨gb307, _, none⟩) NB327_307.out _).trans (((cell_far (p := ⟨gb307, _, none⟩) NB327_307.out _).trans (((cell_far (p := ⟨gb307, _, none⟩) NB327_307.out _).trans (((cell_far (p := ⟨gb307, _, none⟩) NB327_307.out _).trans (hHeld.2.1)))))))))))))), ((cell_far (p := ⟨gb307, _, none⟩) NB327_307.out _).trans (((cell_far (p := ⟨gb307, _, none⟩) NB327_307.out _).trans (((cell_far (p := ⟨gb307, _, none⟩) NB327_307.out _).trans (((cell_far (p := ⟨gb307, _, none⟩) NB327_307.out _).trans (((cell_far (p := ⟨gb307, _, none⟩) NB327_307.out _).trans (((cell_far (p := ⟨gb307, _, none⟩) NB327_307.out _).trans (((cell_far (p := ⟨gb307, _, none⟩) NB327_307.out _).trans (hHeld.2.2.1)))))))))))))), ((cell_far (p := ⟨gb307, _, none⟩) NB327_307.out _).trans (((cell_far (p := ⟨gb307, _, none⟩) NB327_307.out _).trans (((cell_far (p := ⟨gb307, _, none⟩) NB327_307.out _).trans (((cell_far (p := ⟨gb307, _, none⟩) NB327_307.out _).trans (((cell_far (p := ⟨gb307, _, none⟩) NB327_307.out _).trans (((cell_far (p := ⟨gb307, _, none⟩) NB327_307.out _).trans (((cell_far (p := ⟨gb307, _, none⟩) NB327_307.out _).trans (hHeld.2.2.2.1)))))))))))))), ((cell_far (p := ⟨gb307, _, none⟩) NB327_307.out _).trans (((cell_far (p := ⟨gb307, _, none⟩) NB327_307.out _).trans (((cell_far (p := ⟨gb307, _, none⟩) NB327_307.out _).trans (((cell_far (p := ⟨gb307, _, none⟩) NB327_307.out _).trans (((cell_far (p := ⟨gb307, _, none⟩) NB327_307.out _).trans (((cell_far (p := ⟨gb307, _, none⟩) NB327_307.out _).trans (((cell_far (p := ⟨gb307, _, none⟩) NB327_307.out _).trans (hHeld.2.2.2.2.1)))))))))))))), ((cell_far (p := ⟨gb307, _, none⟩) NB327_307.out _).trans (((cell_far (p := ⟨gb307, _, none⟩) NB327_307.out _).trans (((cell_far (p := ⟨gb307, _, none⟩) NB327_307.out _).trans (((cell_far (p := ⟨gb307, _, none⟩) NB327_307.out _).trans (((cell_far (p := ⟨gb307, _, none⟩) NB327_307.out _).trans (((cell_far (p := ⟨gb307, _, none⟩) NB327_307.out _).trans (((cell_far (p := ⟨gb307, _, none⟩) NB327_307.out _).trans (hHeld.2.2.2.2.2.1)))))))))))))), ((cell_far (p := ⟨gb307, _, none⟩) NB327_307.out _).trans (((cell_far (p := ⟨gb307, _, none⟩) NB327_307.out _).trans (((cell_far (p := ⟨gb307, _, none⟩) NB327_307.out _).trans (((cell_far (p := ⟨gb307, _, none⟩) NB327_307.out _).trans (((cell_far (p := ⟨gb307, _, none⟩) NB327_307.out _).trans (((cell_far (p := ⟨gb307, _, none⟩) NB327_307.out _).trans (((cell_far (p := ⟨gb307, _, none⟩) NB327_307.out _).trans (hHeld.2.2.2.2.2.2))))))))))))))⟩ (fun hHeld => ?_)
 clear hK K
 refine pure_ (i := 5) (N := some 3) (v := ?_) (a' := ?_) #[true, true, true, true, true, true] rfl rfl (by kernel_rfl) (fun _ _ _ h => h) (Or.inl ⟨by rfl, ?_⟩) ?_ ?_
 rotate_left
 ·intro w'
  go_simp
  with_reducible rfl
 rotate_left
 ·simp only [Act.put, List.setIfInBounds_toArray, List.set_cons_zero, List.set_cons_succ, i64_w, i32_w]
  rfl
 refine done_ (by kernel_rfl) ?_
 try go_wp2
 refine bodyPost_ret (results_ct rfl _ _ gb307 26 #[.int .i64 t312, .int .i64 t313, .int .i64 t314, .int .i64 t315, .slice Ao12 t316.length co12, .slice Ao13 t319.length co13, .slice Ao14 t322.length co14] (0, 0) _ rfl (by (with_reducible repeat (first | refine blk_drewN ?_ _ | refine blk_drew ?_ | refine blk_alloc ?_ _)); refine blk_put (cs := #[.int .i64 t312, .int .i64 t313, .int .i64 t314, .int .i64 t315, .slice Ao12 t316.length co12, .slice Ao13 t319.length co13, .slice none 0 0]) ?_ 6 _ rfl; (with_reducible repeat (first | refine blk_drewN ?_ _ | refine blk_drew ?_ | refine blk_alloc ?_ _)); refine blk_put (cs := #[.int .i64 t312, .int .i64 t313, .int .i64 t314, .int .i64 t315, .slice Ao12 t316.length co12, .slice none 0 0, .slice none 0 0]) ?_ 5 _ rfl; (with_reducible repeat (first | refine blk_drewN ?_ _ | refine blk_drew ?_ | refine blk_alloc ?_ _)); refine blk_put (cs := #[.int .i64 t312, .int .i64 t313, .int .i64 t314, .int .i64 t315, .slice none 0 0, .slice none 0 0, .slice none 0 0]) ?_ 4 _ rfl; (with_reducible repeat (first | refine blk_drewN ?_ _ | refine blk_drew ?_ | refine blk_alloc ?_ _)); refine blk_put (cs := #[.int .i64 t312, .int .i64 t313, .int .i64 t314, .int .i64 0, .slice none 0 0, .slice none 0 0, .slice none 0 0]) ?_ 3 _ rfl; (with_reducible repeat (first | refine blk_drewN ?_ _ | refine blk_drew ?_ | refine blk_alloc ?_ _)); refine blk_put (cs := #[.int .i64 t312, .int .i64 t313, .int .i64 0, .int .i64 0, .slice none 0 0, .slice none 0 0, .slice none 0 0]) ?_ 2 _ rfl; (with_reducible repeat (first | refine blk_drewN ?_ _ | refine blk_drew ?_ | refine blk_alloc ?_ _)); refine blk_put (cs := #[.int .i64 t312, .int .i64 0, .int .i64 0, .int .i64 0, .slice none 0 0, .slice none 0 0, .slice none 0 0]) ?_ 1 _ rfl; (with_reducible repeat (first | refine blk_drewN ?_ _ | refine blk_drew ?_ | refine blk_alloc ?_ _)); refine blk_put (cs := #[.int .i64 0, .int .i64 0, .int .i64 0, .int .i64 0, .slice none 0 0, .slice none 0 0, .slice none 0 0]) ?_ 0 _ rfl; (with_reducible repeat (first | refine blk_drewN ?_ _ | refine blk_drew ?_ | refine blk_alloc ?_ _)); exact BK307.out) Try.underlying26 rfl (by kernel_rfl)) rfl ?_
 exact ⟨_, _, _, by first | rfl | (simp [errW_none, errW_some] <;> rfl) | (simp [*, errW_none, errW_some] <;> rfl), by (with_reducible repeat (first | apply Kd.R_alloc | apply Kd.R_drewN | apply Kd.R_drew)); exact Kd.R_mono (Kd.R_far (p := ⟨gb307, 6, none⟩) (Kd.R_far (p := ⟨gb307, 5, none⟩) (Kd.R_far (p := ⟨gb307, 4, none⟩) (Kd.R_far (p := ⟨gb307, 3, none⟩) (Kd.R_far (p := ⟨gb307, 2, none⟩) (Kd.R_far (p := ⟨gb307, 1, none⟩) (Kd.R_far (p := ⟨gb307, 0, none⟩) (Kd.R_types HO318.out BK307.out (by decide)) (fun _ hk => hk.2) (.int .i64 t312)) (fun _ hk => hk.2) (.int .i64 t313)) (fun _ hk => hk.2) (.int .i64 t314)) (fun _ hk => hk.2) (.int .i64 t315)) (fun _ hk => hk.2) (.slice Ao12 t316.length co12)) (fun _ hk => hk.2) (.slice Ao13 t319.length co13)) (fun _ hk => hk.2) (.slice Ao14 t322.length co14)) (fun _ hk => hk.1.1), by (with_reducible repeat (first | apply Kd.R_alloc | apply Kd.R_drewN | apply Kd.R_drew)); exact Kd.R_mono (Kd.R_far (p := ⟨gb307, 6, none⟩) (Kd.R_far (p := ⟨gb307, 5, none⟩) (Kd.R_far (p := ⟨gb307, 4, none⟩) (Kd.R_far (p := ⟨gb307, 3, none⟩) (Kd.R_far (p := ⟨gb307, 2, none⟩) (Kd.R_far (p := ⟨gb307, 1, none⟩) (Kd.R_far (p := ⟨gb307, 0, none⟩) (Kd.R_types HO321.out BK307.out (by decide)) (fun _ hk => hk.2) (.int .i64 t312)) (fun _ hk => hk.2) (.int .i64 t313)) (fun _ hk => hk.2) (.int .i64 t314)) (fun _ hk => hk.2) (.int .i64 t315)) (fun _ hk => hk.2) (.slice Ao12 t316.length co12)) (fun _ hk => hk.2) (.slice Ao13 t319.length co13)) (fun _ hk => hk.2) (.slice Ao14 t322.length co14)) (fun _ hk => hk.1.1), by (with_reducible repeat (first | apply Kd.S_alloc | apply Kd.S_drewN | apply Kd.S_drew)); exact Kd.S_mono (Kd.S_far (p := ⟨gb307, 6, none⟩) (Kd.S_far (p := ⟨gb307, 5, none⟩) (Kd.S_far (p := ⟨gb307, 4, none⟩) (Kd.S_far (p := ⟨gb307, 3, none⟩) (Kd.S_far (p := ⟨gb307, 2, none⟩) (Kd.S_far (p := ⟨gb307, 1, none⟩) (Kd.S_far (p := ⟨gb307, 0, none⟩) (Kd.S_types HO324.out BK307.out (by decide)) (fun _ hk => hk.2) (.int .i64 t312)) (fun _ hk => hk.2) (.int .i64 t313)) (fun _ hk => hk.2) (.int .i64 t314)) (fun _ hk => hk.2) (.int .i64 t315)) (fun _ hk => hk.2) (.slice Ao12 t316.length co12)) (fun _ hk => hk.2) (.slice Ao13 t319.length co13)) (fun _ hk => hk.2) (.slice Ao14 t322.length co14)) (fun _ hk => ⟨hk.1.1.1, hk.1.1.2⟩), Z7x4⟩

def impl_within.f (a0 : Int) (a1 : Int) (a2 : Int) : Option (Bool) := if a0 ≥ a1 then (some (decide (a0 ≤ a2))) else (some false)
set_option maxHeartbeats 8000000 in
set_option maxRecDepth 100000 in
theorem impl_within.calls (a0 : Int) (a1 : Int) (a2 : Int) (r : Bool) (w : World) (h : impl_within.f a0 a1 a2 = some r) :
  Calls Try.prog 67 #[.int .i64 a0, .int .i64 a1, .int .i64 a2] w fun e w' => e = .returned (.bool r) ∧ Drawn0 w w' := by
 have H : (if a0 ≥ a1 then (some (decide (a0 ≤ a2))) else (some false)) = some r := h
 clear h
 by_cases c4 : a0 ≥ a1
 ·rw [if_pos c4] at H
  have c4b0 : decide (a1 ≤ a0) = true := decide_eq_true c4
  clear c4
  obtain rfl := Option.some.inj H
  simp only [Option.some.injEq, Prod.mk.injEq] at H
  obtain ⟨rfl⟩ := H
  go_enter Try.func67, Try.ntmps67
  go_wp2
  go_ret
  exact ⟨by first | rfl | (simp; done) | (simp [*]; done), by repeat (first | exact Drawn0.refl _ | apply Drawn0.step)⟩
 ·rw [if_neg c4] at H
  have c4b0 : decide (a1 ≤ a0) = false := decide_eq_false c4
  clear c4
  obtain rfl := Option.some.inj H
  simp only [Option.some.injEq, Prod.mk.injEq] at H
  obtain ⟨rfl⟩ := H
  go_enter Try.func67, Try.ntmps67
  go_wp2
  go_ret
  exact ⟨by first | rfl | (simp; done) | (simp [*]; done), by repeat (first | exact Drawn0.refl _ | apply Drawn0.step)⟩

def impl_copyInts.f (l0 : List Int) : Option (List Int) := if ([] : List Int).length + l0.length < 17592186044416 then (some (([] : List Int) ++ l0)) else (none)
set_option maxHeartbeats 8000000 in
set_option maxRecDepth 100000 in
theorem impl_copyInts.calls (A0 : Option Addr) (c0 : Nat) (l0 : List Int) (r : List Int) (w : World) (hr0 : Kd.C (Kd.int .i64) w A0 l0.length l0) (hc0 : l0.length ≤ c0) (h : impl_copyInts.f l0 = some r) :
  Calls Try.prog 88 #[.slice A0 l0.length c0] w fun e w' => ∃ v0_ : Value, e = .returned (v0_) ∧ Kd.R (Kd.int .i64) 3 w' w.heap.size (fun _ => True) v0_ r ∧ Below w.heap.size w w' := by
 have HR0 := Aside0.mk hr0
 have HC0 := Aside0.mk hc0
 clear hr0 hc0
 have HB := Aside0.mk (Below.refl w.heap.size w)
 have H : (if ([] : List Int).length + l0.length < 17592186044416 then (some (([] : List Int) ++ l0)) else (none)) = some r := h
 clear h
 by_cases c2 : ([] : List Int).length + l0.length < 17592186044416
 ·rw [if_pos c2] at H
  have LMc2 := Aside0.mk c2
  clear c2
  obtain ⟨y334, hy334⟩ : ∃ y_ : List Int, y_ = (([] : List Int) ++ l0) := ⟨_, rfl⟩
  replace H : (some y334) = some r := by first | (rw [hy334]; with_reducible exact H) | (have H2_ := (Option.bind_some _ _).symm.trans H; rw [hy334]; with_reducible exact H2_) | (have H2_ := (Option.bind_some _ _).symm.trans H; with_reducible exact H2_) | with_reducible exact H | (rw [hy334]; exact H) | exact H
  have Ny334 := Aside0.mk hy334
  clear hy334
  obtain rfl := Option.some.inj H
  simp only [Option.some.injEq, Prod.mk.injEq] at H
  obtain ⟨rfl⟩ := H
  go_enter Try.func88, Try.ntmps88
  go_wp2_with (first | ((with_reducible refine gate_builtin (b := .append) (xs := #[.const (.slice none 0 0), .tmp 3]) rfl ?_); at_builtin; refine Kd.R_append_rows (Kd.int .i64) (w0 := w) w.heap.size rfl (.const (.slice none 0 0)) (.tmp 3) 23 3 (.int .i64 0) 8 rfl Try.underlying23 info3 rfl (by decide) (by omega) (.slice none 0 0) ([] : List Int) l0 _ _ _ (fun _ => True) (fun _ => False) rfl rfl ?aO ?aR (fun _ _ h => h) (fun _ h => h.elim) ?aF ?aB ?aS ?aL ?_; (case aR => repeat (first | exact HR0.out | (with_reducible refine Kd.C_alloc ?_ _) | (with_reducible refine Kd.C_drewN ?_ _) | (with_reducible refine Kd.C_drew ?_))); (case aB => exact Z7x3); (case aF => exact (fun _ _ => trivial)); (case aO => exact ((Kd.R_nil _ _ _ _ (fun _ => True)))); (case aS => exact (below_size Z7x3)); (case aL => have := LMc2.out; omega); intro v335 w3 ho hb hg hat; rw [← Ny334.out] at ho; have n0_ := Aside0.mk (hb); have n1_ := Aside0.mk (ho); clear HB; have HB := n0_; have HO336 := n1_; clear n0_ n1_; clear ho hb hg hat))
  go_ret
  exact ⟨_, by first | rfl | (simp [errW_none, errW_some] <;> rfl) | (simp [*, errW_none, errW_some] <;> rfl), by (with_reducible repeat (first | apply Kd.R_alloc | apply Kd.R_drewN | apply Kd.R_drew)); exact HO336.out, Z7x3⟩
 ·rw [if_neg c2] at H
  exact absurd H (by simp)

def impl_counts.l0 : Nat → List Int → List (List Int) → Int → Int → Option (List Int)
 | 0, _, _, _, _ => none
 | k + 1, x3, x13, x14, x15 => if x15 < x14 then (if 0 ≤ x15 then (if x15 < (x13.length : Int) then (if x3.length + (rd_L2 x13 x15).length < 17592186044416 then (impl_counts.l0 k (x3 ++ (rd_L2 x13 x15)) x13 x14 (wrap64 (x15 + 1))) else (none)) else (none)) else (none)) else (some x3)
def impl_counts.f (k : Nat) (a0_0 : Int) (a0_1 : Int) (a0_2 : Int) (a0_3 : Int) (l0_4 : List Int) (l0_5 : List Int) (l0_6 : List (List Int)) : Option (List Int) := (impl_copyInts.f l0_4).bind fun t338 => (if t338.length + l0_5.length < 17592186044416 then (impl_counts.l0 k (t338 ++ l0_5) l0_6 (l0_6.length : Int) 0) else (none))
theorem impl_counts.mono_l : ∀ k, (∀ y0 y1 y2 y3, LeO (impl_counts.l0 k y0 y1 y2 y3) (impl_counts.l0 (k + 1) y0 y1 y2 y3))
 | 0 => fun _ _ _ _ r h => by simp [impl_counts.l0] at h
 | k + 1 => by
  have ih0 := impl_counts.mono_l k
  ·intro y0 y1 y2 y3
   unfold impl_counts.l0
   repeat' first
   | (with_reducible exact ih0 _ _ _ _)
   | (with_reducible exact LeO.refl _)
   | (with_reducible exact LeO.none _)
   | (with_reducible refine LeO.ite ?_ ?_)
   | (with_reducible refine LeO.bind ?_ (fun _ => ?_))
   | exact ih0 _ _ _ _
   | exact LeO.none _
   | refine LeO.ite ?_ ?_
   | refine LeO.bind ?_ (fun _ => ?_)
theorem impl_counts.mono : ∀ a0 a1 a2 a3 a4 a5 a6 k, LeO (impl_counts.f k a0 a1 a2 a3 a4 a5 a6) (impl_counts.f (k + 1) a0 a1 a2 a3 a4 a5 a6) := by
 intro a0 a1 a2 a3 a4 a5 a6 k
 have ih0 := impl_counts.mono_l k
 unfold impl_counts.f
 repeat' first
   | (with_reducible exact ih0 _ _ _ _)
   | (with_reducible exact LeO.refl _)
   | (with_reducible exact LeO.none _)
   | (with_reducible refine LeO.ite ?_ ?_)
   | (with_reducible refine LeO.bind ?_ (fun _ => ?_))
   | exact ih0 _ _ _ _
   | exact LeO.none _
   | refine LeO.ite ?_ ?_
   | refine LeO.bind ?_ (fun _ => ?_)
set_option maxHeartbeats 8000000 in
set_option maxRecDepth 100000 in
theorem impl_counts.calls (k : Nat) (a0_0 : Int) (a0_1 : Int) (a0_2 : Int) (a0_3 : Int) (A0_4 : Option Addr) (c0_4 : Nat) (l0_4 : List Int) (A0_5 : Option Addr) (c0_5 : Nat) (l0_5 : List Int) (A0_6 : Option Addr) (c0_6 : Nat) (l0_6 : List (List Int)) (r : List Int) (w : World) (hr0_4 : Kd.C (Kd.int .i64) w A0_4 l0_4.length l0_4) (hc0_4 : l0_4.length ≤ c0_4) (hr0_5 : Kd.C (Kd.int .i64) w A0_5 l0_5.length l0_5) (hc0_5 : l0_5.length ≤ c0_5) (hr0_6 : Kd.C (Kd.slice 3 (Kd.int .i64)) w A0_6 l0_6.length l0_6) (hc0_6 : l0_6.length ≤ c0_6) (h : impl_counts.f k a0_0 a0_1 a0_2 a0_3 l0_4 l0_5 l0_6 = some r) :
  Calls Try.prog 72 #[.agg #[.int .i64 a0_0, .int .i64 a0_1, .int .i64 a0_2, .int .i64 a0_3, .slice A0_4 l0_4.length c0_4, .slice A0_5 l0_5.length c0_5, .slice A0_6 l0_6.length c0_6]] w fun e w' => ∃ v0_ : Value, e = .returned (v0_) ∧ Kd.R (Kd.int .i64) 3 w' w.heap.size (fun _ => True) v0_ r ∧ Below w.heap.size w w' := by
 have hu26 := Try.underlying26
 have HR0_4 := Aside0.mk hr0_4
 have HC0_4 := Aside0.mk hc0_4
 clear hr0_4 hc0_4
 have HR0_5 := Aside0.mk hr0_5
 have HC0_5 := Aside0.mk hc0_5
 clear hr0_5 hc0_5
 have HR0_6 := Aside0.mk hr0_6
 have HC0_6 := Aside0.mk hc0_6
 clear hr0_6 hc0_6
 have HB := Aside0.mk (Below.refl w.heap.size w)
 have H : ((impl_copyInts.f l0_4).bind fun t338 => (if t338.length + l0_5.length < 17592186044416 then (impl_counts.l0 k (t338 ++ l0_5) l0_6 (l0_6.length : Int) 0) else (none))) = some r := h
 clear h
 replace H := Option.bind_eq_some_iff.mp H
 obtain ⟨t338, A20, H⟩ := H
 replace H : (if t338.length + l0_5.length < 17592186044416 then (impl_counts.l0 k (t338 ++ l0_5) l0_6 (l0_6.length : Int) 0) else (none)) = some r := H
 have A2 := Aside0.mk A20
 clear A20
 by_cases c3 : t338.length + l0_5.length < 17592186044416
 ·rw [if_pos c3] at H
  have LMc3 := Aside0.mk c3
  clear c3
  obtain ⟨y341, hy341⟩ : ∃ y_ : List Int, y_ = (t338 ++ l0_5) := ⟨_, rfl⟩
  replace H : (impl_counts.l0 k y341 l0_6 (l0_6.length : Int) 0) = some r := by first | (rw [hy341]; with_reducible exact H) | (have H2_ := (Option.bind_some _ _).symm.trans H; rw [hy341]; with_reducible exact H2_) | (have H2_ := (Option.bind_some _ _).symm.trans H; with_reducible exact H2_) | with_reducible exact H | (rw [hy341]; exact H) | exact H
  have Ny341 := Aside0.mk hy341
  clear hy341
  have H' := Aside0.mk H
  clear H
  go_enter Try.func72, Try.ntmps72
  try go_wp2_with (first | ((with_reducible refine gate_dst (N := 1) rfl ?_); refine box_event ?hg (N := 1) ?hd (cs := #[.int .i64 a0_0, .int .i64 a0_1, .int .i64 a0_2, .int .i64 a0_3, .slice A0_4 l0_4.length c0_4, .slice A0_5 l0_5.length c0_5, .slice A0_6 l0_6.length c0_6]) (t := 26) ?hr ?_; (case hd => rfl); (case hg => rfl); (case hr => first | (go_simp; done) | (go_simp; rfl)); intro gb337 hg w4 hbox hb; have n0_ := Aside0.mk (below_step Z7x3 hb); have n1_ := Aside0.mk (hbox); have n2_ := Aside0.mk ((by rw [hg]; exact (below_size Z7x3) : w.heap.size ≤ gb337)); have n3_ := Aside0.mk ((by rw [hg]; exact (below_size Z7x3) : w.heap.size ≤ gb337)); clear HB; have HB := n0_; have BK337 := n1_; have GW337 := n2_; have GE337 := n3_; clear n0_ n1_ n2_ n3_; clear hb hbox hg))
  have n0_ := Aside0.mk (blk_drew BK337.out)
  have n1_ := Aside0.mk (below_drew1 HB.out)
  clear BK337
  clear HB
  have BK337 := n0_
  have HB := n1_
  clear n0_ n1_
  refine start_ (n := 7) (S := fun w' => w'.cell? ⟨gb337, 0, none⟩ = some (.int .i64 a0_0) ∧ w'.cell? ⟨gb337, 1, none⟩ = some (.int .i64 a0_1) ∧ w'.cell? ⟨gb337, 2, none⟩ = some (.int .i64 a0_2) ∧ w'.cell? ⟨gb337, 3, none⟩ = some (.int .i64 a0_3) ∧ w'.cell? ⟨gb337, 4, none⟩ = some (.slice A0_4 l0_4.length c0_4) ∧ w'.cell? ⟨gb337, 5, none⟩ = some (.slice A0_5 l0_5.length c0_5) ∧ w'.cell? ⟨gb337, 6, none⟩ = some (.slice A0_6 l0_6.length c0_6)) (ds := []) #[false, false, false, false, false, false, false] (by kernel_rfl) rfl rfl ⟨(blk_cell BK337.out 0).trans rfl, (blk_cell BK337.out 1).trans rfl, (blk_cell BK337.out 2).trans rfl, (blk_cell BK337.out 3).trans rfl, (blk_cell BK337.out 4).trans rfl, (blk_cell BK337.out 5).trans rfl, (blk_cell BK337.out 6).trans rfl⟩ (fun hHeld => ?_)
  generalize w4.drew = w5 at BK337 HB hHeld ⊢
  refine pure_ (i := 0) (N := some 6) (v := ?_) (a' := ?_) #[true, false, false, false, false, false, false] rfl rfl (by kernel_rfl) (fun _ _ _ h => h) (Or.inl ⟨by rfl, ?_⟩) ?_ ?_
  rotate_left
  ·intro w'
   go_simp
   with_reducible rfl
  rotate_left
  ·simp only [Act.put, List.setIfInBounds_toArray, List.set_cons_zero, List.set_cons_succ, i64_w, i32_w]
   rfl
  refine pure_ (i := 3) (N := some 9) (v := ?_) (a' := ?_) #[true, false, false, true, false, false, false] rfl rfl (by kernel_rfl) (fun _ _ _ h => h) (Or.inl ⟨by rfl, ?_⟩) ?_ ?_
  rotate_left
  ·intro w'
   go_simp
   with_reducible rfl
  rotate_left
  ·simp only [Act.put, List.setIfInBounds_toArray, List.set_cons_zero, List.set_cons_succ, i64_w, i32_w]
   rfl
  refine take_ (i := 1) (N := some 7) (v := ?_) (a' := ?_) #[true, true, false, true, false, false, false] rfl rfl (by kernel_rfl) (fun _ _ _ h => h) (Or.inl ⟨by rfl, ?_⟩) hHeld ?_ ?_
  rotate_left
  ·rintro w' ⟨s0, s1, s2, s3, s4, s5, s6⟩
   go_simp
   with_reducible rfl
  rotate_left
  ·simp only [Act.put, List.setIfInBounds_toArray, List.set_cons_zero, List.set_cons_succ, i64_w, i32_w]
   rfl
  refine take_ (i := 4) (N := some 10) (v := ?_) (a' := ?_) #[true, true, false, true, true, false, false] rfl rfl (by kernel_rfl) (fun _ _ _ h => h) (Or.inl ⟨by rfl, ?_⟩) hHeld ?_ ?_
  rotate_left
  ·rintro w' ⟨s0, s1, s2, s3, s4, s5, s6⟩
   go_simp
   with_reducible rfl
  rotate_left
  ·simp only [Act.put, List.setIfInBounds_toArray, List.set_cons_zero, List.set_cons_succ, i64_w, i32_w]
   rfl
  refine one_ (i := 2) (N := some 8) #[true, true, true, true, true, false, false] rfl rfl (by kernel_rfl) (by decide) (fun K hK => ?_)
  refine goes_ Try.func88 (by kernel_rfl) rfl #[.slice A0_4 l0_4.length c0_4] (by rfl) rfl rfl Z7x8 ?_
  with_reducible refine (impl_copyInts.calls _ _ l0_4 t338 _ ?side1 ?side2 A2.out).mono ?_
  (case side1 => repeat (first | exact (Kd.C_below HR0_4.out HB.out) | (with_reducible refine Kd.C_alloc ?_ _) | (with_reducible refine Kd.C_drewN ?_ _) | (with_reducible refine Kd.C_drew ?_)))
  (case side2 => exact HC0_4.out)
  rintro e w6 ⟨v339, rfl, ho0, hb⟩
  refine ⟨_, rfl, ?_⟩
  have n0_ := Aside0.mk (Kd.R_lower ho0 (below_size Z7x1))
  have n1_ := Aside0.mk (blk_below (g := gb337) (o := .cells #[.int .i64 a0_0, .int .i64 a0_1, .int .i64 a0_2, .int .i64 a0_3, .slice A0_4 l0_4.length c0_4, .slice A0_5 l0_5.length c0_5, .slice A0_6 l0_6.length c0_6] 26 (0, 0)) Z7x7 hb)
  have n2_ := Aside0.mk (below_step Z7x1 hb)
  clear BK337
  clear HB
  have HO340 := n0_
  have BK337 := n1_
  have HB := n2_
  clear n0_ n1_ n2_
  (try clear hb)
  (try clear hb2)
  (try clear hk)
  (try clear hi)
  (try clear ho0)
  refine hK.out _ _ ⟨(blk_cell BK337.out 0).trans rfl, (blk_cell BK337.out 1).trans rfl, (blk_cell BK337.out 2).trans rfl, (blk_cell BK337.out 3).trans rfl, (blk_cell BK337.out 4).trans rfl, (blk_cell BK337.out 5).trans rfl, (blk_cell BK337.out 6).trans rfl⟩ (fun hHeld => ?_)
  clear hK K
  refine norm_ (a' := ?_) ?_ ?_
  rotate_left
  ·show Act.put _ (some 8) _ = _
   simp only [Act.put, List.setIfInBounds_toArray, List.set_cons_zero, List.set_cons_succ, i64_w, i32_w]
   rfl
  refine one_ (i := 5) (N := some 11) #[true, true, true, true, true, true, false] rfl rfl (by kernel_rfl) (by decide) (fun K hK => ?_)
  refine Kd.R_append_rows_step (Kd.int .i64) (w0 := w) w.heap.size (by rfl) (.tmp 8) (.tmp 10) 23 3 (.int .i64 0) 8 rfl Try.underlying23 info3 rfl (by decide) (by omega) v339 t338 l0_5 _ _ _ (fun _ => True) (fun _ => False) rfl rfl ?aO ?aR (fun _ _ h => h) (fun _ h => h.elim) ?aF ?aB ?aS ?aL ?_
  (case aR => repeat (first | exact (Kd.C_below HR0_5.out HB.out) | (with_reducible refine Kd.C_alloc ?_ _) | (with_reducible refine Kd.C_drewN ?_ _) | (with_reducible refine Kd.C_drew ?_)))
  (case aB => exact Z7x1)
  (case aF => exact (fun _ _ => trivial))
  (case aO => exact (by (with_reducible repeat (first | apply Kd.R_alloc | apply Kd.R_drewN | apply Kd.R_drew)); exact HO340.out))
  (case aS => exact (below_size Z7x1))
  (case aL => have := LMc3.out; omega)
  intro v342 w7 ho hb hg hat
  rw [← Ny341.out] at ho
  have n0_ := Aside0.mk (blk_grown (g := gb337) (o := .cells #[.int .i64 a0_0, .int .i64 a0_1, .int .i64 a0_2, .int .i64 a0_3, .slice A0_4 l0_4.length c0_4, .slice A0_5 l0_5.length c0_5, .slice A0_6 l0_6.length c0_6] 26 (0, 0)) Z7x7 hg (Kd.R_ne HO340.out BK337.out (by decide)))
  have n1_ := Aside0.mk (hb)
  have n2_ := Aside0.mk (ho)
  clear BK337
  clear HB
  clear HO340
  have BK337 := n0_
  have HB := n1_
  have HO343 := n2_
  clear n0_ n1_ n2_
  clear ho hb hg hat
  refine hK.out _ _ ⟨(blk_cell BK337.out 0).trans rfl, (blk_cell BK337.out 1).trans rfl, (blk_cell BK337.out 2).trans rfl, (blk_cell BK337.out 3).trans rfl, (blk_cell BK337.out 4).trans rfl, (blk_cell BK337.out 5).trans rfl, (blk_cell BK337.out 6).trans rfl⟩ (fun hHeld => ?_)
  clear hK K
  refine norm_ (a' := ?_) ?_ ?_
  rotate_left
  ·show Act.put _ (some 11) _ = _
   simp only [Act.put, List.setIfInBounds_toArray, List.set_cons_zero, List.set_cons_succ, i64_w, i32_w]
   rfl
  refine pure_ (i := 6) (N := some 3) (v := ?_) (a' := ?_) #[true, true, true, true, true, true, true] rfl rfl (by kernel_rfl) (fun _ _ _ h => h) (Or.inl ⟨by rfl, ?_⟩) ?_ ?_
  rotate_left
  ·intro w'
   go_simp
   with_reducible rfl
  rotate_left
  ·simp only [Act.put, List.setIfInBounds_toArray, List.set_cons_zero, List.set_cons_succ, i64_w, i32_w]
   rfl
  refine done_ (by kernel_rfl) ?_
  have hcz8_0 : w7.cell? ⟨gb337, 0, none⟩ = some (.int .i64 a0_0) := (blk_cell BK337.out 0).trans rfl
  have hcz8_1 : w7.cell? ⟨gb337, 1, none⟩ = some (.int .i64 a0_1) := (blk_cell BK337.out 1).trans rfl
  have hcz8_2 : w7.cell? ⟨gb337, 2, none⟩ = some (.int .i64 a0_2) := (blk_cell BK337.out 2).trans rfl
  have hcz8_3 : w7.cell? ⟨gb337, 3, none⟩ = some (.int .i64 a0_3) := (blk_cell BK337.out 3).trans rfl
  have hcz8_4 : w7.cell? ⟨gb337, 4, none⟩ = some (.slice A0_4 l0_4.length c0_4) := (blk_cell BK337.out 4).trans rfl
  have hcz8_5 : w7.cell? ⟨gb337, 5, none⟩ = some (.slice A0_5 l0_5.length c0_5) := (blk_cell BK337.out 5).trans rfl
  have hcz8_6 : w7.cell? ⟨gb337, 6, none⟩ = some (.slice A0_6 l0_6.length c0_6) := (blk_cell BK337.out 6).trans rfl
  have hfz8_0 := blk_frozen BK337.out 0
  have hfz8_1 := blk_frozen BK337.out 1
  have hfz8_2 := blk_frozen BK337.out 2
  have hfz8_3 := blk_frozen BK337.out 3
  have hfz8_4 := blk_frozen BK337.out 4
  have hfz8_5 := blk_frozen BK337.out 5
  have hfz8_6 := blk_frozen BK337.out 6
  try go_wp2
  go_loopg [3, 15] k (fun kq v3 v15 w' => ∃ (x3_1 : List Int) (x15_1 : Int), v15 = .int .i64 x15_1 ∧ Aside0 (impl_counts.l0 kq x3_1 l0_6 (l0_6.length : Int) x15_1 = some r) ∧ Aside0 (kq ≤ k) ∧ Aside0 (Kd.R (Kd.int .i64) 3 w' w.heap.size (fun _ => True) v3 x3_1) ∧ Aside0 (w'.heap[gb337]? = some (.cells #[.int .i64 a0_0, .int .i64 a0_1, .int .i64 a0_2, .int .i64 a0_3, (.slice A0_4 l0_4.length c0_4), (.slice A0_5 l0_5.length c0_5), (.slice A0_6 l0_6.length c0_6)] 26 (0, 0))) ∧ Aside0 (Below w.heap.size w w'))
  case atStart => exact ⟨(y341), (0), (by first | rfl | (simp; done) | (simp [*]; done)), H', ⟨Nat.le_refl _⟩, ⟨by (with_reducible repeat (first | apply Kd.R_alloc | apply Kd.R_drewN | apply Kd.R_drew)); exact HO343.out⟩, ⟨Z7x7⟩, ⟨Z7x1⟩⟩
  case round =>
   clear H'
   try clear p2
   try clear c3
   try clear c7
   try clear c8
   try clear hcz8_0
   try clear hcz8_1
   try clear hcz8_2
   try clear hcz8_3
   try clear hcz8_4
   try clear hcz8_5
   try clear hcz8_6
   try clear hfz8_0
   try clear hfz8_1
   try clear hfz8_2
   try clear hfz8_3
   try clear hfz8_4
   try clear hfz8_5
   try clear hfz8_6
   (try clear BK337)
   obtain ⟨x3_1, x15_1, rfl, HA, HK1, HO_3, BK337, HB⟩ := hrel
   cases gk with
   | zero => exact absurd HA.out (by simp [impl_counts.l0])
   | succ k1 =>
    have H := HA.out
    clear HA
    simp only [impl_counts.l0] at H
    by_cases c9 : x15_1 < (l0_6.length : Int)
    ·rw [if_pos c9] at H
     have c9b0 : decide (x15_1 < (l0_6.length : Int)) = true := decide_eq_true c9
     clear c9
     by_cases c10 : 0 ≤ x15_1
     ·rw [if_pos c10] at H
      have c10b0 : decide (0 ≤ x15_1) = true := decide_eq_true c10
      clear c10
      by_cases c11 : x15_1 < (l0_6.length : Int)
      ·rw [if_pos c11] at H
       have c11b0 : decide (x15_1 < (l0_6.length : Int)) = true := decide_eq_true c11
       clear c11
       by_cases c12 : x3_1.length + (rd_L2 l0_6 x15_1).length < 17592186044416
       ·rw [if_pos c12] at H
        have LMc12 := Aside0.mk c12
        clear c12
        obtain ⟨y345, hy345⟩ : ∃ y_ : List Int, y_ = (x3_1 ++ (rd_L2 l0_6 x15_1)) := ⟨_, rfl⟩
        replace H : (impl_counts.l0 k1 y345 l0_6 (l0_6.length : Int) (wrap64 (x15_1 + 1))) = some r := by first | (rw [hy345]; with_reducible exact H) | (have H2_ := (Option.bind_some _ _).symm.trans H; rw [hy345]; with_reducible exact H2_) | (have H2_ := (Option.bind_some _ _).symm.trans H; with_reducible exact H2_) | with_reducible exact H | (rw [hy345]; exact H) | exact H
        have Ny345 := Aside0.mk hy345
        clear hy345
        have H' := Aside0.mk H
        clear H
        have p344 : 0 ≤ (x15_1 : Int) := of_decide_eq_true (by first | (with_reducible assumption) | assumption)
        have q344 : x15_1 < (l0_6.length : Int) := of_decide_eq_true (by first | (with_reducible assumption) | assumption)
        obtain ⟨ad344, A344_0, c344_0, e344, hx344_0, hl344_0, hi344_0⟩ := at_L2 HR0_6.out x15_1 p344 q344
        cases e344
        replace hx344_0 := (HB.out.cell (World.block_lt_of_cell? w _ hx344_0)).trans hx344_0
        have HR344_0 := Aside0.mk hi344_0
        have HC344_0 := Aside0.mk hl344_0
        clear hi344_0 hl344_0
        replace p344 := eq_true p344
        replace q344 := eq_true q344
        go_wp2_with (first | ((with_reducible refine gate_builtin (b := .append) (xs := #[.tmp 19, .tmp 20]) rfl ?_); at_builtin; refine Kd.R_append_rows (Kd.int .i64) (w0 := w) w.heap.size rfl (.tmp 19) (.tmp 20) 23 3 (.int .i64 0) 8 rfl Try.underlying23 info3 rfl (by decide) (by omega) u3 x3_1 (rd_L2 l0_6 x15_1) _ _ _ (fun _ => True) (fun _ => False) rfl rfl ?aO ?aR (fun _ _ h => h) (fun _ h => h.elim) ?aF ?aB ?aS ?aL ?_; (case aR => repeat (first | exact (Kd.C_below HR344_0.out HB.out) | (with_reducible refine Kd.C_alloc ?_ _) | (with_reducible refine Kd.C_drewN ?_ _) | (with_reducible refine Kd.C_drew ?_))); (case aB => exact Z7x1); (case aF => exact (fun _ _ => trivial)); (case aO => exact (by (with_reducible repeat (first | apply Kd.R_alloc | apply Kd.R_drewN | apply Kd.R_drew)); exact HO_3.out)); (case aS => exact (below_size Z7x1)); (case aL => have := LMc12.out; omega); intro v346 w13 ho hb hg hat; rw [← Ny345.out] at ho; have n0_ := Aside0.mk (blk_grown (g := gb337) (o := .cells #[.int .i64 a0_0, .int .i64 a0_1, .int .i64 a0_2, .int .i64 a0_3, .slice A0_4 l0_4.length c0_4, .slice A0_5 l0_5.length c0_5, .slice (some ad344) l0_6.length c0_6] 26 (0, 0)) Z7x7 hg (Kd.R_ne HO_3.out BK337.out (by decide))); have n1_ := Aside0.mk (hb); have n2_ := Aside0.mk (ho); clear BK337; clear HB; clear HO_3; have BK337 := n0_; have HB := n1_; have HO347 := n2_; clear n0_ n1_ n2_; clear ho hb hg hat))
        go_roundg k1
        case measure => have := HK1.out; omega
        case rel => exact ⟨(y345), (wrap64 (x15_1 + 1)), (by first | rfl | (simp; done) | (simp [*]; done)), H', ⟨by have := HK1.out; omega⟩, ⟨by (with_reducible repeat (first | apply Kd.R_alloc | apply Kd.R_drewN | apply Kd.R_drew)); exact HO347.out⟩, ⟨Z7x7⟩, ⟨Z7x1⟩⟩
       ·rw [if_neg c12] at H
        exact absurd H (by simp)
      ·rw [if_neg c11] at H
       exact absurd H (by simp)
     ·rw [if_neg c10] at H
      exact absurd H (by simp)
    ·rw [if_neg c9] at H
     have c9b0 : decide (x15_1 < (l0_6.length : Int)) = false := decide_eq_false c9
     clear c9
     obtain rfl := Option.some.inj H
     simp only [Option.some.injEq, Prod.mk.injEq] at H
     obtain ⟨rfl⟩ := H
     go_wp2
     go_ret
     exact ⟨_, by first | rfl | (simp [errW_none, errW_some] <;> rfl) | (simp [*, errW_none, errW_some] <;> rfl), by (with_reducible repeat (first | apply Kd.R_alloc | apply Kd.R_drewN | apply Kd.R_drew)); exact HO_3.out, Z7x1⟩
 ·rw [if_neg c3] at H
  exact absurd H (by simp)

end Go.Proofs.Ytfknjoebomicnaa.PFnQuantiles
