-- Written by this session's changed copy of the kit's printer (wip/patch_print.py): not the kit's own print.
import Derived.Test.YtfknjoebomicnaaPFnMergedx0
import Derived.Test.YtfknjoebomicnaaPFnMergedx5
import Derived.Test.YtfknjoebomicnaaPFnMergedx6
namespace Go.Proofs.Ytfknjoebomicnaa.PFnMerged
open Go.RowKit Go.Proofs.YtfknjoebomicnaaW.PrintWords Go.Proofs.YtfknjoebomicnaaW.PrintLast Go.Proofs.YtfknjoebomicnaaW.PrintMore
attribute [local go_sem] max2_int min2_int max_two min_two max_three min_three max_four min_four   -- for this text's walks alone
set_option linter.unusedVariables false
set_option linter.unusedSimpArgs false
theorem Z7x0 {p : Prop} (h : p := by repeat (first | (with_reducible first | exact HI0.out | apply IsS107.alloc | apply IsS107.drewN | apply IsS107.drew | apply IsS107.set_1 | apply IsS107.set_2) | exact HI0.out)) : p := h
theorem Z7x1 {p : Prop} (h : p := by repeat (first | (with_reducible first | exact HB.out | apply below_alloc | apply pw_below_drewN | apply below_drew1 | refine below_set ?_ (IsS107.ge HI0.out)) | exact HB.out)) : p := h
theorem Z7x2 {p : Prop} (h : p := by repeat (first | (with_reducible first | exact HK.out | apply KeepBut.set_ | apply keep_drewN | apply keep_drew | apply keep_alloc) | exact HK.out)) : p := h
theorem Z7x3 {p : Prop} (h : p := by have := Z_2.out; have := Z_6.out; have := Z_11.out; have := Z_17.out; have := Z_23.out; have := Z_26.out; have := Z_31.out; have := Z_39.out; have := Z_47.out; have := Z_63.out; have := Z_70.out; have := Z_82.out; omega) : p := h
theorem Z7x4 {p : Prop} (h : p := by repeat (first | (with_reducible first | exact HBW.out | apply below_alloc | apply pw_below_drewN | apply below_drew1) | exact HBW.out)) : p := h
theorem Z7x5 {p : Prop} (h : p := by have := Z_2.out; have := Z_6.out; have := Z_11.out; have := Z_17.out; have := Z_23.out; have := Z_26.out; have := Z_31.out; have := Z_39.out; have := Z_47.out; omega) : p := h
theorem Z7x6 {p : Prop} (h : p := by have := Z_2.out; have := Z_6.out; have := Z_11.out; have := Z_17.out; have := Z_23.out; have := Z_26.out; have := Z_31.out; have := Z_39.out; have := Z_47.out; have := Z_63.out; have := Z_70.out; omega) : p := h
theorem Z7x7 {p : Prop} (h : p := by (try simp only [List.map_toArray, List.map_cons, List.map_nil]); first | done | rfl | (simp only [List.length_drop, List.length_take]; rfl)) : p := h
theorem Z7x8 {p : Prop} (h : p := by repeat (first | (with_reducible first | exact HB.out | apply below_alloc | apply pw_below_drewN | apply below_drew1) | exact HB.out)) : p := h
theorem Z7x9 {p : Prop} (h : p := by first | rfl | (simp [errW_none, errW_some] <;> rfl) | (simp [*, errW_none, errW_some] <;> rfl)) : p := h

theorem impl_limited.still (a b c : Int) (w : World) : Calls Try.prog 89 #[.int .i64 a, .int .i64 b, .int .i64 c] w fun e w' => e = .returned (.int .i64 (mn (mx a b) c)) ∧ w' = w := by
 go_enter Try.func89, Try.ntmps89
 go_wp2
 all_goals
  go_ret
  refine ⟨congrArg (fun z => Ending.returned (.int .i64 z)) ?_, rfl⟩
  unfold mn mx
  repeat' split
  all_goals omega
theorem impl_Add.still (a b r : Int) (w : World) (h : impl_Add.f a b = some r) : Calls Try.prog 55 #[.int .i64 a, .int .i64 b] w fun e w' => e = .returned (.int .i64 r) ∧ w' = w := by
 unfold impl_Add.f impl_limited.f at h
 simp only [Option.bind_some, Option.some.injEq] at h
 generalize h1 : mn (mx a 0) 1000000000 = x at h
 generalize h2 : mn (mx b 0) 1000000000 = y at h
 have H := Aside0.mk h
 have c1 := fun w' => impl_limited.still a 0 1000000000 w'
 have c2 := fun w' => impl_limited.still b 0 1000000000 w'
 rw [h1] at c1
 rw [h2] at c2
 clear h h1 h2
 go_enter Try.func55, Try.ntmps55
 go_wp2_with fail
 refine (c1 _).mono ?_
 rintro e w' ⟨rfl, rfl⟩
 go_wp2_with fail
 refine (c2 _).mono ?_
 rintro e w' ⟨rfl, rfl⟩
 go_wp2
 all_goals
  go_ret
  refine ⟨congrArg (fun z => Ending.returned (.int .i64 z)) ?_, rfl⟩
  rw [← H.out]
  generalize wrap64 (x + y) = q at *
  unfold mn
  repeat' split
  all_goals omega
theorem impl_Merge.ok (k : Nat) {w : World} {x y z : Sl} {h r : List Int} {R : List (List Int)} (c s lo hi : Int) (t : Bool) (u : Rd w x y z h r R) (he : impl_SketchOk.f k c s lo hi h r R = some t) :
  Calls Try.prog 35 #[.agg #[.int .i64 c, .int .i64 s, .int .i64 lo, .int .i64 hi, .slice x.A x.n x.c, .slice y.A y.n y.c, .slice z.A z.n z.c]] w fun e w' => e = .returned (.bool t) ∧ Below w.heap.size w w' := by
 rw [u.e4, u.e5, u.e6]
 exact impl_SketchOk.calls k c s lo hi _ _ h _ _ r _ _ R t w u.C4 u.l4 u.C5 u.l5 u.C6 u.l6 he
theorem impl_Merge.cp (k : Nat) {w : World} {x y z : Sl} {h r : List Int} {R : List (List Int)} (c s lo hi : Int) (u : Rd w x y z h r R) (he : impl_copySketch.f k c s lo hi h r R = some (c, s, lo, hi, h, r, R)) :
  Calls Try.prog 54 #[.agg #[.int .i64 c, .int .i64 s, .int .i64 lo, .int .i64 hi, .slice x.A x.n x.c, .slice y.A y.n y.c, .slice z.A z.n z.c]] w fun e w' => ∃ (x' y' z' : Sl) (a b : Nat), e = .returned (.agg #[.int .i64 c, .int .i64 s, .int .i64 lo, .int .i64 hi, .slice x'.A x'.n x'.c, .slice y'.A y'.n y'.c, .slice z'.A z'.n z'.c]) ∧ Sk w' a b x' y' z' h r R ∧ Made w w' a b ∧ Below w.heap.size w w' := by
 rw [u.e4, u.e5, u.e6]
 refine (impl_copySketch.calls k c s lo hi _ _ h _ _ r _ _ R c s lo hi h r R w u.C4 u.l4 u.C5 u.l5 u.C6 u.l6 he).mono ?_
 rintro e w' ⟨v4, v5, v6, rfl, h4, h5, h6, hb⟩
 obtain ⟨x', y', z', rfl, rfl, rfl, hs⟩ := Sk.of h4 h5 h6 (fun _ hk => hk) (fun _ hk => hk)
 exact ⟨x', y', z', _, _, rfl, hs, ⟨Nat.le_refl _, hb.size, Nat.le_refl _⟩, hb⟩
def impl_Merge.G (c s : Int) (h r : List Int) (R : List (List Int)) (c' s' : Int) (h' r' : List Int) (R' : List (List Int)) : Prop :=
 (h.length = 8 ∧ r.length = 8 ∧ R.length = 2 ∧ h'.length = 8 ∧ r'.length = 8 ∧ R'.length = 2) ∧ impl_Add.f c c' = some (sadd c c') ∧ impl_Add.f s s' = some (sadd s s') ∧
 (∀ i, i < 8 → impl_Add.f (h.getD i 0) (h'.getD i 0) = some ((List.zipWith sadd h h').getD i 0)) ∧ (∀ i, i < 8 → mx (r.getD i 0) (r'.getD i 0) = (List.zipWith hi2 r r').getD i 0) ∧
 (∀ i, i < 2 → ((List.zipWith (List.zipWith sadd) R R').getD i []).length = 4 ∧ (R.getD i []).length = 4 ∧ (R'.getD i []).length = 4 ∧ ∀ j, j < 4 → impl_Add.f ((R.getD i []).getD j 0) ((R'.getD i []).getD j 0) = some (((List.zipWith (List.zipWith sadd) R R').getD i []).getD j 0))
instance (c s : Int) (h r : List Int) (R : List (List Int)) (c' s' : Int) (h' r' : List Int) (R' : List (List Int)) : Decidable (impl_Merge.G c s h r R c' s' h' r' R') := by unfold impl_Merge.G; infer_instance
def impl_Merge.lo (c lo c' lo' : Int) : Int := if c = 0 ∨ 0 < c' ∧ lo' < lo then lo' else lo
set_option maxHeartbeats 16000000 in
set_option maxRecDepth 100000 in
theorem impl_Merge.no1 (k : Nat) (c s lo hi c' s' lo' hi' : Int) {A4 A5 A6 B4 B5 B6 : Option Addr} {c4 c5 c6 d4 d5 d6 : Nat} {h r h' r' : List Int} {R R' : List (List Int)} (w : World) (u : Rd w ⟨A4, h.length, c4⟩ ⟨A5, r.length, c5⟩ ⟨A6, R.length, c6⟩ h r R) (u' : Rd w ⟨B4, h'.length, d4⟩ ⟨B5, r'.length, d5⟩ ⟨B6, R'.length, d6⟩ h' r' R')
  (K1 : Aside0 (impl_SketchOk.f k c s lo hi h r R = some false)) :
  Calls Try.prog 20 #[.agg #[.int .i64 c, .int .i64 s, .int .i64 lo, .int .i64 hi, .slice A4 h.length c4, .slice A5 r.length c5, .slice A6 R.length c6], .agg #[.int .i64 c', .int .i64 s', .int .i64 lo', .int .i64 hi', .slice B4 h'.length d4, .slice B5 r'.length d5, .slice B6 R'.length d6]] w (SkOut w 0 0 0 0 [] [] [] false) := by
 have U := Aside0.mk u
 have U' := Aside0.mk u'
 clear u u'
 go_enter Try.func20, Try.ntmps20
 have HB_1 := Aside0.mk ((below_alloc (Below.refl _ w) (.cells #[.int .i64 c, .int .i64 s, .int .i64 lo, .int .i64 hi, .slice A4 h.length c4, .slice A5 r.length c5, .slice A6 R.length c6] 26)))
 have Z_2 := Aside0.mk (show (w.alloc (.cells #[.int .i64 c, .int .i64 s, .int .i64 lo, .int .i64 hi, .slice A4 h.length c4, .slice A5 r.length c5, .slice A6 R.length c6] 26)).heap.size = w.heap.size + 1 by simp)
 have bxa_3 := Aside0.mk (Bx.new w 26 #[.int .i64 c, .int .i64 s, .int .i64 lo, .int .i64 hi, .slice A4 h.length c4, .slice A5 r.length c5, .slice A6 R.length c6])
 have bxa_4 := Aside0.mk (bxa_3.out.below (below_alloc (Below.refl _ (w.alloc (.cells #[.int .i64 c, .int .i64 s, .int .i64 lo, .int .i64 hi, .slice A4 h.length c4, .slice A5 r.length c5, .slice A6 R.length c6] 26))) (.cells #[.int .i64 c', .int .i64 s', .int .i64 lo', .int .i64 hi', .slice B4 h'.length d4, .slice B5 r'.length d5, .slice B6 R'.length d6] 26)))
 have HB_5 := Aside0.mk (below_step HB_1.out (below_alloc (Below.refl _ (w.alloc (.cells #[.int .i64 c, .int .i64 s, .int .i64 lo, .int .i64 hi, .slice A4 h.length c4, .slice A5 r.length c5, .slice A6 R.length c6] 26))) (.cells #[.int .i64 c', .int .i64 s', .int .i64 lo', .int .i64 hi', .slice B4 h'.length d4, .slice B5 r'.length d5, .slice B6 R'.length d6] 26)))
 have Z_6 := Aside0.mk (show ((w.alloc (.cells #[.int .i64 c, .int .i64 s, .int .i64 lo, .int .i64 hi, .slice A4 h.length c4, .slice A5 r.length c5, .slice A6 R.length c6] 26)).alloc (.cells #[.int .i64 c', .int .i64 s', .int .i64 lo', .int .i64 hi', .slice B4 h'.length d4, .slice B5 r'.length d5, .slice B6 R'.length d6] 26)).heap.size = w.heap.size + 1 + 1 by simp)
 have bxb_7 := Aside0.mk ((show Bx ((w.alloc (.cells #[.int .i64 c, .int .i64 s, .int .i64 lo, .int .i64 hi, .slice A4 h.length c4, .slice A5 r.length c5, .slice A6 R.length c6] 26)).alloc (.cells #[.int .i64 c', .int .i64 s', .int .i64 lo', .int .i64 hi', .slice B4 h'.length d4, .slice B5 r'.length d5, .slice B6 R'.length d6] 26)) (w.heap.size + 1) 26 #[.int .i64 c', .int .i64 s', .int .i64 lo', .int .i64 hi', .slice B4 h'.length d4, .slice B5 r'.length d5, .slice B6 R'.length d6] from (show (w.alloc (.cells #[.int .i64 c, .int .i64 s, .int .i64 lo, .int .i64 hi, .slice A4 h.length c4, .slice A5 r.length c5, .slice A6 R.length c6] 26)).heap.size = w.heap.size + 1 by simp) ▸ Bx.new (w.alloc (.cells #[.int .i64 c, .int .i64 s, .int .i64 lo, .int .i64 hi, .slice A4 h.length c4, .slice A5 r.length c5, .slice A6 R.length c6] 26)) 26 #[.int .i64 c', .int .i64 s', .int .i64 lo', .int .i64 hi', .slice B4 h'.length d4, .slice B5 r'.length d5, .slice B6 R'.length d6]))
 clear bxa_3 HB_1
 have bxa_8 := Aside0.mk (bxa_4.out.below (below_alloc (Below.refl _ ((w.alloc (.cells #[.int .i64 c, .int .i64 s, .int .i64 lo, .int .i64 hi, .slice A4 h.length c4, .slice A5 r.length c5, .slice A6 R.length c6] 26)).alloc (.cells #[.int .i64 c', .int .i64 s', .int .i64 lo', .int .i64 hi', .slice B4 h'.length d4, .slice B5 r'.length d5, .slice B6 R'.length d6] 26))) (.cells #[.int .i64 0, .int .i64 0, .int .i64 0, .int .i64 0, .slice none 0 0, .slice none 0 0, .slice none 0 0] 26)))
 have bxb_9 := Aside0.mk (bxb_7.out.below (below_alloc (Below.refl _ ((w.alloc (.cells #[.int .i64 c, .int .i64 s, .int .i64 lo, .int .i64 hi, .slice A4 h.length c4, .slice A5 r.length c5, .slice A6 R.length c6] 26)).alloc (.cells #[.int .i64 c', .int .i64 s', .int .i64 lo', .int .i64 hi', .slice B4 h'.length d4, .slice B5 r'.length d5, .slice B6 R'.length d6] 26))) (.cells #[.int .i64 0, .int .i64 0, .int .i64 0, .int .i64 0, .slice none 0 0, .slice none 0 0, .slice none 0 0] 26)))
 have HB_10 := Aside0.mk (below_step HB_5.out (below_alloc (Below.refl _ ((w.alloc (.cells #[.int .i64 c, .int .i64 s, .int .i64 lo, .int .i64 hi, .slice A4 h.length c4, .slice A5 r.length c5, .slice A6 R.length c6] 26)).alloc (.cells #[.int .i64 c', .int .i64 s', .int .i64 lo', .int .i64 hi', .slice B4 h'.length d4, .slice B5 r'.length d5, .slice B6 R'.length d6] 26))) (.cells #[.int .i64 0, .int .i64 0, .int .i64 0, .int .i64 0, .slice none 0 0, .slice none 0 0, .slice none 0 0] 26)))
 have Z_11 := Aside0.mk (show (((w.alloc (.cells #[.int .i64 c, .int .i64 s, .int .i64 lo, .int .i64 hi, .slice A4 h.length c4, .slice A5 r.length c5, .slice A6 R.length c6] 26)).alloc (.cells #[.int .i64 c', .int .i64 s', .int .i64 lo', .int .i64 hi', .slice B4 h'.length d4, .slice B5 r'.length d5, .slice B6 R'.length d6] 26)).alloc (.cells #[.int .i64 0, .int .i64 0, .int .i64 0, .int .i64 0, .slice none 0 0, .slice none 0 0, .slice none 0 0] 26)).heap.size = w.heap.size + 1 + 1 + 1 by simp)
 have bxo_12 := Aside0.mk ((show Bx (((w.alloc (.cells #[.int .i64 c, .int .i64 s, .int .i64 lo, .int .i64 hi, .slice A4 h.length c4, .slice A5 r.length c5, .slice A6 R.length c6] 26)).alloc (.cells #[.int .i64 c', .int .i64 s', .int .i64 lo', .int .i64 hi', .slice B4 h'.length d4, .slice B5 r'.length d5, .slice B6 R'.length d6] 26)).alloc (.cells #[.int .i64 0, .int .i64 0, .int .i64 0, .int .i64 0, .slice none 0 0, .slice none 0 0, .slice none 0 0] 26)) (w.heap.size + 1 + 1) 26 #[.int .i64 0, .int .i64 0, .int .i64 0, .int .i64 0, .slice none 0 0, .slice none 0 0, .slice none 0 0] from (show ((w.alloc (.cells #[.int .i64 c, .int .i64 s, .int .i64 lo, .int .i64 hi, .slice A4 h.length c4, .slice A5 r.length c5, .slice A6 R.length c6] 26)).alloc (.cells #[.int .i64 c', .int .i64 s', .int .i64 lo', .int .i64 hi', .slice B4 h'.length d4, .slice B5 r'.length d5, .slice B6 R'.length d6] 26)).heap.size = w.heap.size + 1 + 1 by simp) ▸ Bx.new ((w.alloc (.cells #[.int .i64 c, .int .i64 s, .int .i64 lo, .int .i64 hi, .slice A4 h.length c4, .slice A5 r.length c5, .slice A6 R.length c6] 26)).alloc (.cells #[.int .i64 c', .int .i64 s', .int .i64 lo', .int .i64 hi', .slice B4 h'.length d4, .slice B5 r'.length d5, .slice B6 R'.length d6] 26)) 26 #[.int .i64 0, .int .i64 0, .int .i64 0, .int .i64 0, .slice none 0 0, .slice none 0 0, .slice none 0 0]))
 clear bxa_4 bxb_7 HB_5
 go_wp2_with fail
 refine (impl_Merge.ok k c s lo hi false (U.out.below HB_10.out) K1.out).mono ?_
 rintro e w1 ⟨rfl, hb⟩
 have bxa_13 := Aside0.mk (bxa_8.out.below hb)
 have bxb_14 := Aside0.mk (bxb_9.out.below hb)
 have bxo_15 := Aside0.mk (bxo_12.out.below hb)
 have HB_16 := Aside0.mk (below_step HB_10.out hb)
 have Z_17 := Aside0.mk (hb.size)
 clear bxa_8 bxb_9 bxo_12 HB_10 hb
 obtain ⟨bxo17c0, bxo17c1, bxo17c2, bxo17c3, bxo17c4, bxo17c5, bxo17c6⟩ := bxo_15.out.cells
 have fz19 := bxo_15.out.fz
 go_wp2
 refine bodyPost_ret (results_ct rfl _ _ (w.heap.size + 1 + 1) 26 #[.int .i64 0, .int .i64 0, .int .i64 0, .int .i64 0, .slice none 0 0, .slice none 0 0, .slice none 0 0] (0, 0) _ rfl (bxo_15.out.fill _ _ _ _ _ _ _).1 Try.underlying26 rfl (by kernel_rfl)) rfl ?_
 exact ⟨⟨none, 0, 0⟩, ⟨none, 0, 0⟩, ⟨none, 0, 0⟩, _, _, rfl, Sk.nil _ w.heap.size w.heap.size, ⟨Nat.le_refl _, Nat.le_refl _, Nat.le_trans HB_16.out.size (bxo_15.out.fill _ _ _ _ _ _ _).2.kept.1⟩, below_kp HB_16.out (bxo_15.out.fill _ _ _ _ _ _ _).2 (by omega) HB_16.out.size⟩
set_option maxHeartbeats 16000000 in
set_option maxRecDepth 100000 in
theorem impl_Merge.no2 (k : Nat) (c s lo hi c' s' lo' hi' : Int) {A4 A5 A6 B4 B5 B6 : Option Addr} {c4 c5 c6 d4 d5 d6 : Nat} {h r h' r' : List Int} {R R' : List (List Int)} (w : World) (u : Rd w ⟨A4, h.length, c4⟩ ⟨A5, r.length, c5⟩ ⟨A6, R.length, c6⟩ h r R) (u' : Rd w ⟨B4, h'.length, d4⟩ ⟨B5, r'.length, d5⟩ ⟨B6, R'.length, d6⟩ h' r' R')
  (K1 : Aside0 (impl_SketchOk.f k c s lo hi h r R = some true)) (K2 : Aside0 (impl_SketchOk.f k c' s' lo' hi' h' r' R' = some false)) :
  Calls Try.prog 20 #[.agg #[.int .i64 c, .int .i64 s, .int .i64 lo, .int .i64 hi, .slice A4 h.length c4, .slice A5 r.length c5, .slice A6 R.length c6], .agg #[.int .i64 c', .int .i64 s', .int .i64 lo', .int .i64 hi', .slice B4 h'.length d4, .slice B5 r'.length d5, .slice B6 R'.length d6]] w (SkOut w 0 0 0 0 [] [] [] false) := by
 have U := Aside0.mk u
 have U' := Aside0.mk u'
 clear u u'
 go_enter Try.func20, Try.ntmps20
 have HB_1 := Aside0.mk ((below_alloc (Below.refl _ w) (.cells #[.int .i64 c, .int .i64 s, .int .i64 lo, .int .i64 hi, .slice A4 h.length c4, .slice A5 r.length c5, .slice A6 R.length c6] 26)))
 have Z_2 := Aside0.mk (show (w.alloc (.cells #[.int .i64 c, .int .i64 s, .int .i64 lo, .int .i64 hi, .slice A4 h.length c4, .slice A5 r.length c5, .slice A6 R.length c6] 26)).heap.size = w.heap.size + 1 by simp)
 have bxa_3 := Aside0.mk (Bx.new w 26 #[.int .i64 c, .int .i64 s, .int .i64 lo, .int .i64 hi, .slice A4 h.length c4, .slice A5 r.length c5, .slice A6 R.length c6])
 have bxa_4 := Aside0.mk (bxa_3.out.below (below_alloc (Below.refl _ (w.alloc (.cells #[.int .i64 c, .int .i64 s, .int .i64 lo, .int .i64 hi, .slice A4 h.length c4, .slice A5 r.length c5, .slice A6 R.length c6] 26))) (.cells #[.int .i64 c', .int .i64 s', .int .i64 lo', .int .i64 hi', .slice B4 h'.length d4, .slice B5 r'.length d5, .slice B6 R'.length d6] 26)))
 have HB_5 := Aside0.mk (below_step HB_1.out (below_alloc (Below.refl _ (w.alloc (.cells #[.int .i64 c, .int .i64 s, .int .i64 lo, .int .i64 hi, .slice A4 h.length c4, .slice A5 r.length c5, .slice A6 R.length c6] 26))) (.cells #[.int .i64 c', .int .i64 s', .int .i64 lo', .int .i64 hi', .slice B4 h'.length d4, .slice B5 r'.length d5, .slice B6 R'.length d6] 26)))
 have Z_6 := Aside0.mk (show ((w.alloc (.cells #[.int .i64 c, .int .i64 s, .int .i64 lo, .int .i64 hi, .slice A4 h.length c4, .slice A5 r.length c5, .slice A6 R.length c6] 26)).alloc (.cells #[.int .i64 c', .int .i64 s', .int .i64 lo', .int .i64 hi', .slice B4 h'.length d4, .slice B5 r'.length d5, .slice B6 R'.length d6] 26)).heap.size = w.heap.size + 1 + 1 by simp)
 have bxb_7 := Aside0.mk ((show Bx ((w.alloc (.cells #[.int .i64 c, .int .i64 s, .int .i64 lo, .int .i64 hi, .slice A4 h.length c4, .slice A5 r.length c5, .slice A6 R.length c6] 26)).alloc (.cells #[.int .i64 c', .int .i64 s', .int .i64 lo', .int .i64 hi', .slice B4 h'.length d4, .slice B5 r'.length d5, .slice B6 R'.length d6] 26)) (w.heap.size + 1) 26 #[.int .i64 c', .int .i64 s', .int .i64 lo', .int .i64 hi', .slice B4 h'.length d4, .slice B5 r'.length d5, .slice B6 R'.length d6] from (show (w.alloc (.cells #[.int .i64 c, .int .i64 s, .int .i64 lo, .int .i64 hi, .slice A4 h.length c4, .slice A5 r.length c5, .slice A6 R.length c6] 26)).heap.size = w.heap.size + 1 by simp) ▸ Bx.new (w.alloc (.cells #[.int .i64 c, .int .i64 s, .int .i64 lo, .int .i64 hi, .slice A4 h.length c4, .slice A5 r.length c5, .slice A6 R.length c6] 26)) 26 #[.int .i64 c', .int .i64 s', .int .i64 lo', .int .i64 hi', .slice B4 h'.length d4, .slice B5 r'.length d5, .slice B6 R'.length d6]))
 clear bxa_3 HB_1
 have bxa_8 := Aside0.mk (bxa_4.out.below (below_alloc (Below.refl _ ((w.alloc (.cells #[.int .i64 c, .int .i64 s, .int .i64 lo, .int .i64 hi, .slice A4 h.length c4, .slice A5 r.length c5, .slice A6 R.length c6] 26)).alloc (.cells #[.int .i64 c', .int .i64 s', .int .i64 lo', .int .i64 hi', .slice B4 h'.length d4, .slice B5 r'.length d5, .slice B6 R'.length d6] 26))) (.cells #[.int .i64 0, .int .i64 0, .int .i64 0, .int .i64 0, .slice none 0 0, .slice none 0 0, .slice none 0 0] 26)))
 have bxb_9 := Aside0.mk (bxb_7.out.below (below_alloc (Below.refl _ ((w.alloc (.cells #[.int .i64 c, .int .i64 s, .int .i64 lo, .int .i64 hi, .slice A4 h.length c4, .slice A5 r.length c5, .slice A6 R.length c6] 26)).alloc (.cells #[.int .i64 c', .int .i64 s', .int .i64 lo', .int .i64 hi', .slice B4 h'.length d4, .slice B5 r'.length d5, .slice B6 R'.length d6] 26))) (.cells #[.int .i64 0, .int .i64 0, .int .i64 0, .int .i64 0, .slice none 0 0, .slice none 0 0, .slice none 0 0] 26)))
 have HB_10 := Aside0.mk (below_step HB_5.out (below_alloc (Below.refl _ ((w.alloc (.cells #[.int .i64 c, .int .i64 s, .int .i64 lo, .int .i64 hi, .slice A4 h.length c4, .slice A5 r.length c5, .slice A6 R.length c6] 26)).alloc (.cells #[.int .i64 c', .int .i64 s', .int .i64 lo', .int .i64 hi', .slice B4 h'.length d4, .slice B5 r'.length d5, .slice B6 R'.length d6] 26))) (.cells #[.int .i64 0, .int .i64 0, .int .i64 0, .int .i64 0, .slice none 0 0, .slice none 0 0, .slice none 0 0] 26)))
 have Z_11 := Aside0.mk (show (((w.alloc (.cells #[.int .i64 c, .int .i64 s, .int .i64 lo, .int .i64 hi, .slice A4 h.length c4, .slice A5 r.length c5, .slice A6 R.length c6] 26)).alloc (.cells #[.int .i64 c', .int .i64 s', .int .i64 lo', .int .i64 hi', .slice B4 h'.length d4, .slice B5 r'.length d5, .slice B6 R'.length d6] 26)).alloc (.cells #[.int .i64 0, .int .i64 0, .int .i64 0, .int .i64 0, .slice none 0 0, .slice none 0 0, .slice none 0 0] 26)).heap.size = w.heap.size + 1 + 1 + 1 by simp)
 have bxo_12 := Aside0.mk ((show Bx (((w.alloc (.cells #[.int .i64 c, .int .i64 s, .int .i64 lo, .int .i64 hi, .slice A4 h.length c4, .slice A5 r.length c5, .slice A6 R.length c6] 26)).alloc (.cells #[.int .i64 c', .int .i64 s', .int .i64 lo', .int .i64 hi', .slice B4 h'.length d4, .slice B5 r'.length d5, .slice B6 R'.length d6] 26)).alloc (.cells #[.int .i64 0, .int .i64 0, .int .i64 0, .int .i64 0, .slice none 0 0, .slice none 0 0, .slice none 0 0] 26)) (w.heap.size + 1 + 1) 26 #[.int .i64 0, .int .i64 0, .int .i64 0, .int .i64 0, .slice none 0 0, .slice none 0 0, .slice none 0 0] from (show ((w.alloc (.cells #[.int .i64 c, .int .i64 s, .int .i64 lo, .int .i64 hi, .slice A4 h.length c4, .slice A5 r.length c5, .slice A6 R.length c6] 26)).alloc (.cells #[.int .i64 c', .int .i64 s', .int .i64 lo', .int .i64 hi', .slice B4 h'.length d4, .slice B5 r'.length d5, .slice B6 R'.length d6] 26)).heap.size = w.heap.size + 1 + 1 by simp) ▸ Bx.new ((w.alloc (.cells #[.int .i64 c, .int .i64 s, .int .i64 lo, .int .i64 hi, .slice A4 h.length c4, .slice A5 r.length c5, .slice A6 R.length c6] 26)).alloc (.cells #[.int .i64 c', .int .i64 s', .int .i64 lo', .int .i64 hi', .slice B4 h'.length d4, .slice B5 r'.length d5, .slice B6 R'.length d6] 26)) 26 #[.int .i64 0, .int .i64 0, .int .i64 0, .int .i64 0, .slice none 0 0, .slice none 0 0, .slice none 0 0]))
 clear bxa_4 bxb_7 HB_5
 go_wp2_with fail
 refine (impl_Merge.ok k c s lo hi true (U.out.below HB_10.out) K1.out).mono ?_
 rintro e w1 ⟨rfl, hb⟩
 have bxa_13 := Aside0.mk (bxa_8.out.below hb)
 have bxb_14 := Aside0.mk (bxb_9.out.below hb)
 have bxo_15 := Aside0.mk (bxo_12.out.below hb)
 have HB_16 := Aside0.mk (below_step HB_10.out hb)
 have Z_17 := Aside0.mk (hb.size)
 clear bxa_8 bxb_9 bxo_12 HB_10 hb
 obtain ⟨bxb17c0, bxb17c1, bxb17c2, bxb17c3, bxb17c4, bxb17c5, bxb17c6⟩ := bxb_14.out.cells
 go_wp2_with fail
 clear bxb17c0 bxb17c1 bxb17c2 bxb17c3 bxb17c4 bxb17c5 bxb17c6
 refine (impl_Merge.ok k c' s' lo' hi' false (U'.out.below HB_16.out) K2.out).mono ?_
 rintro e w2 ⟨rfl, hb⟩
 have bxa_19 := Aside0.mk (bxa_13.out.below hb)
 have bxb_20 := Aside0.mk (bxb_14.out.below hb)
 have bxo_21 := Aside0.mk (bxo_15.out.below hb)
 have HB_22 := Aside0.mk (below_step HB_16.out hb)
 have Z_23 := Aside0.mk (hb.size)
 clear bxa_13 bxb_14 bxo_15 HB_16 hb
 obtain ⟨bxo23c0, bxo23c1, bxo23c2, bxo23c3, bxo23c4, bxo23c5, bxo23c6⟩ := bxo_21.out.cells
 have fz25 := bxo_21.out.fz
 go_wp2
 refine bodyPost_ret (results_ct rfl _ _ (w.heap.size + 1 + 1) 26 #[.int .i64 0, .int .i64 0, .int .i64 0, .int .i64 0, .slice none 0 0, .slice none 0 0, .slice none 0 0] (0, 0) _ rfl (bxo_21.out.fill _ _ _ _ _ _ _).1 Try.underlying26 rfl (by kernel_rfl)) rfl ?_
 exact ⟨⟨none, 0, 0⟩, ⟨none, 0, 0⟩, ⟨none, 0, 0⟩, _, _, rfl, Sk.nil _ w.heap.size w.heap.size, ⟨Nat.le_refl _, Nat.le_refl _, Nat.le_trans HB_22.out.size (bxo_21.out.fill _ _ _ _ _ _ _).2.kept.1⟩, below_kp HB_22.out (bxo_21.out.fill _ _ _ _ _ _ _).2 (by omega) HB_22.out.size⟩
set_option maxHeartbeats 16000000 in
set_option maxRecDepth 100000 in
theorem impl_Merge.yes (k : Nat) (c s lo hi c' s' lo' hi' : Int) {A4 A5 A6 B4 B5 B6 : Option Addr} {c4 c5 c6 d4 d5 d6 : Nat} {h r h' r' : List Int} {R R' : List (List Int)} (w : World) (u : Rd w ⟨A4, h.length, c4⟩ ⟨A5, r.length, c5⟩ ⟨A6, R.length, c6⟩ h r R) (u' : Rd w ⟨B4, h'.length, d4⟩ ⟨B5, r'.length, d5⟩ ⟨B6, R'.length, d6⟩ h' r' R')
  (K1 : Aside0 (impl_SketchOk.f k c s lo hi h r R = some true)) (K2 : Aside0 (impl_SketchOk.f k c' s' lo' hi' h' r' R' = some true)) (K3 : Aside0 (impl_copySketch.f k c s lo hi h r R = some (c, s, lo, hi, h, r, R)))
  (L : Aside0 (h.length = 8 ∧ r.length = 8 ∧ R.length = 2 ∧ h'.length = 8 ∧ r'.length = 8 ∧ R'.length = 2)) (m2 m3 : Int) (e3 : mx hi hi' = m3) (e3_ : (if hi < hi' then hi' else hi) = m3) (ad0 : Aside0 (impl_Add.f c c' = some (sadd c c'))) (ad1 : Aside0 (impl_Add.f s s' = some (sadd s s')))
  (HZ RZ : List Int) (WZ : List (List Int)) (LZ : Aside0 (HZ.length = 8 ∧ RZ.length = 8 ∧ WZ.length = 2)) (AH : Aside0 (∀ i, i < 8 → impl_Add.f (h.getD i 0) (h'.getD i 0) = some (HZ.getD i 0))) (AR : Aside0 (∀ i, i < 8 → mx (r.getD i 0) (r'.getD i 0) = RZ.getD i 0))
  (AW0 : Aside0 (∀ i, i < 2 → (WZ.getD i []).length = 4 ∧ (R.getD i []).length = 4 ∧ (R'.getD i []).length = 4 ∧ ∀ j, j < 4 → impl_Add.f ((R.getD i []).getD j 0) ((R'.getD i []).getD j 0) = some ((WZ.getD i []).getD j 0)))
  (HQ : Aside0 (((c == 0) = true ∧ m2 = lo') ∨ ((c == 0) = false ∧ decide (c' > 0) = false ∧ m2 = lo) ∨ ((c == 0) = false ∧ decide (c' > 0) = true ∧ decide (lo' < lo) = true ∧ m2 = lo') ∨ ((c == 0) = false ∧ decide (c' > 0) = true ∧ decide (lo' < lo) = false ∧ m2 = lo))) :
  Calls Try.prog 20 #[.agg #[.int .i64 c, .int .i64 s, .int .i64 lo, .int .i64 hi, .slice A4 h.length c4, .slice A5 r.length c5, .slice A6 R.length c6], .agg #[.int .i64 c', .int .i64 s', .int .i64 lo', .int .i64 hi', .slice B4 h'.length d4, .slice B5 r'.length d5, .slice B6 R'.length d6]] w (SkOut w (sadd c c') (sadd s s') m2 m3 HZ RZ WZ true) := by
 have U := Aside0.mk u
 have U' := Aside0.mk u'
 clear u u'
 obtain ⟨q1, hm⟩ | ⟨q1, q2, hm⟩ | ⟨q1, q2, q3, hm⟩ | ⟨q1, q2, q3, hm⟩ := HQ.out
 all_goals
  have HM := Aside0.mk hm
  clear hm
  go_enter Try.func20, Try.ntmps20
  have HB_1 := Aside0.mk ((below_alloc (Below.refl _ w) (.cells #[.int .i64 c, .int .i64 s, .int .i64 lo, .int .i64 hi, .slice A4 h.length c4, .slice A5 r.length c5, .slice A6 R.length c6] 26)))
  have Z_2 := Aside0.mk (show (w.alloc (.cells #[.int .i64 c, .int .i64 s, .int .i64 lo, .int .i64 hi, .slice A4 h.length c4, .slice A5 r.length c5, .slice A6 R.length c6] 26)).heap.size = w.heap.size + 1 by simp)
  have bxa_3 := Aside0.mk (Bx.new w 26 #[.int .i64 c, .int .i64 s, .int .i64 lo, .int .i64 hi, .slice A4 h.length c4, .slice A5 r.length c5, .slice A6 R.length c6])
  have bxa_4 := Aside0.mk (bxa_3.out.below (below_alloc (Below.refl _ (w.alloc (.cells #[.int .i64 c, .int .i64 s, .int .i64 lo, .int .i64 hi, .slice A4 h.length c4, .slice A5 r.length c5, .slice A6 R.length c6] 26))) (.cells #[.int .i64 c', .int .i64 s', .int .i64 lo', .int .i64 hi', .slice B4 h'.length d4, .slice B5 r'.length d5, .slice B6 R'.length d6] 26)))
  have HB_5 := Aside0.mk (below_step HB_1.out (below_alloc (Below.refl _ (w.alloc (.cells #[.int .i64 c, .int .i64 s, .int .i64 lo, .int .i64 hi, .slice A4 h.length c4, .slice A5 r.length c5, .slice A6 R.length c6] 26))) (.cells #[.int .i64 c', .int .i64 s', .int .i64 lo', .int .i64 hi', .slice B4 h'.length d4, .slice B5 r'.length d5, .slice B6 R'.length d6] 26)))
  have Z_6 := Aside0.mk (show ((w.alloc (.cells #[.int .i64 c, .int .i64 s, .int .i64 lo, .int .i64 hi, .slice A4 h.length c4, .slice A5 r.length c5, .slice A6 R.length c6] 26)).alloc (.cells #[.int .i64 c', .int .i64 s', .int .i64 lo', .int .i64 hi', .slice B4 h'.length d4, .slice B5 r'.length d5, .slice B6 R'.length d6] 26)).heap.size = w.heap.size + 1 + 1 by simp)
  have bxb_7 := Aside0.mk ((show Bx ((w.alloc (.cells #[.int .i64 c, .int .i64 s, .int .i64 lo, .int .i64 hi, .slice A4 h.length c4, .slice A5 r.length c5, .slice A6 R.length c6] 26)).alloc (.cells #[.int .i64 c', .int .i64 s', .int .i64 lo', .int .i64 hi', .slice B4 h'.length d4, .slice B5 r'.length d5, .slice B6 R'.length d6] 26)) (w.heap.size + 1) 26 #[.int .i64 c', .int .i64 s', .int .i64 lo', .int .i64 hi', .slice B4 h'.length d4, .slice B5 r'.length d5, .slice B6 R'.length d6] from (show (w.alloc (.cells #[.int .i64 c, .int .i64 s, .int .i64 lo, .int .i64 hi, .slice A4 h.length c4, .slice A5 r.length c5, .slice A6 R.length c6] 26)).heap.size = w.heap.size + 1 by simp) ▸ Bx.new (w.alloc (.cells #[.int .i64 c, .int .i64 s, .int .i64 lo, .int .i64 hi, .slice A4 h.length c4, .slice A5 r.length c5, .slice A6 R.length c6] 26)) 26 #[.int .i64 c', .int .i64 s', .int .i64 lo', .int .i64 hi', .slice B4 h'.length d4, .slice B5 r'.length d5, .slice B6 R'.length d6]))
  clear bxa_3 HB_1
  have bxa_8 := Aside0.mk (bxa_4.out.below (below_alloc (Below.refl _ ((w.alloc (.cells #[.int .i64 c, .int .i64 s, .int .i64 lo, .int .i64 hi, .slice A4 h.length c4, .slice A5 r.length c5, .slice A6 R.length c6] 26)).alloc (.cells #[.int .i64 c', .int .i64 s', .int .i64 lo', .int .i64 hi', .slice B4 h'.length d4, .slice B5 r'.length d5, .slice B6 R'.length d6] 26))) (.cells #[.int .i64 0, .int .i64 0, .int .i64 0, .int .i64 0, .slice none 0 0, .slice none 0 0, .slice none 0 0] 26)))
  have bxb_9 := Aside0.mk (bxb_7.out.below (below_alloc (Below.refl _ ((w.alloc (.cells #[.int .i64 c, .int .i64 s, .int .i64 lo, .int .i64 hi, .slice A4 h.length c4, .slice A5 r.length c5, .slice A6 R.length c6] 26)).alloc (.cells #[.int .i64 c', .int .i64 s', .int .i64 lo', .int .i64 hi', .slice B4 h'.length d4, .slice B5 r'.length d5, .slice B6 R'.length d6] 26))) (.cells #[.int .i64 0, .int .i64 0, .int .i64 0, .int .i64 0, .slice none 0 0, .slice none 0 0, .slice none 0 0] 26)))
  have HB_10 := Aside0.mk (below_step HB_5.out (below_alloc (Below.refl _ ((w.alloc (.cells #[.int .i64 c, .int .i64 s, .int .i64 lo, .int .i64 hi, .slice A4 h.length c4, .slice A5 r.length c5, .slice A6 R.length c6] 26)).alloc (.cells #[.int .i64 c', .int .i64 s', .int .i64 lo', .int .i64 hi', .slice B4 h'.length d4, .slice B5 r'.length d5, .slice B6 R'.length d6] 26))) (.cells #[.int .i64 0, .int .i64 0, .int .i64 0, .int .i64 0, .slice none 0 0, .slice none 0 0, .slice none 0 0] 26)))
  have Z_11 := Aside0.mk (show (((w.alloc (.cells #[.int .i64 c, .int .i64 s, .int .i64 lo, .int .i64 hi, .slice A4 h.length c4, .slice A5 r.length c5, .slice A6 R.length c6] 26)).alloc (.cells #[.int .i64 c', .int .i64 s', .int .i64 lo', .int .i64 hi', .slice B4 h'.length d4, .slice B5 r'.length d5, .slice B6 R'.length d6] 26)).alloc (.cells #[.int .i64 0, .int .i64 0, .int .i64 0, .int .i64 0, .slice none 0 0, .slice none 0 0, .slice none 0 0] 26)).heap.size = w.heap.size + 1 + 1 + 1 by simp)
  have bxo_12 := Aside0.mk ((show Bx (((w.alloc (.cells #[.int .i64 c, .int .i64 s, .int .i64 lo, .int .i64 hi, .slice A4 h.length c4, .slice A5 r.length c5, .slice A6 R.length c6] 26)).alloc (.cells #[.int .i64 c', .int .i64 s', .int .i64 lo', .int .i64 hi', .slice B4 h'.length d4, .slice B5 r'.length d5, .slice B6 R'.length d6] 26)).alloc (.cells #[.int .i64 0, .int .i64 0, .int .i64 0, .int .i64 0, .slice none 0 0, .slice none 0 0, .slice none 0 0] 26)) (w.heap.size + 1 + 1) 26 #[.int .i64 0, .int .i64 0, .int .i64 0, .int .i64 0, .slice none 0 0, .slice none 0 0, .slice none 0 0] from (show ((w.alloc (.cells #[.int .i64 c, .int .i64 s, .int .i64 lo, .int .i64 hi, .slice A4 h.length c4, .slice A5 r.length c5, .slice A6 R.length c6] 26)).alloc (.cells #[.int .i64 c', .int .i64 s', .int .i64 lo', .int .i64 hi', .slice B4 h'.length d4, .slice B5 r'.length d5, .slice B6 R'.length d6] 26)).heap.size = w.heap.size + 1 + 1 by simp) ▸ Bx.new ((w.alloc (.cells #[.int .i64 c, .int .i64 s, .int .i64 lo, .int .i64 hi, .slice A4 h.length c4, .slice A5 r.length c5, .slice A6 R.length c6] 26)).alloc (.cells #[.int .i64 c', .int .i64 s', .int .i64 lo', .int .i64 hi', .slice B4 h'.length d4, .slice B5 r'.length d5, .slice B6 R'.length d6] 26)) 26 #[.int .i64 0, .int .i64 0, .int .i64 0, .int .i64 0, .slice none 0 0, .slice none 0 0, .slice none 0 0]))
  clear bxa_4 bxb_7 HB_5
  go_wp2_with fail
  refine (impl_Merge.ok k c s lo hi true (U.out.below HB_10.out) K1.out).mono ?_
  rintro e w1 ⟨rfl, hb⟩
  have bxa_13 := Aside0.mk (bxa_8.out.below hb)
  have bxb_14 := Aside0.mk (bxb_9.out.below hb)
  have bxo_15 := Aside0.mk (bxo_12.out.below hb)
  have HB_16 := Aside0.mk (below_step HB_10.out hb)
  have Z_17 := Aside0.mk (hb.size)
  clear bxa_8 bxb_9 bxo_12 HB_10 hb
  obtain ⟨bxb17c0, bxb17c1, bxb17c2, bxb17c3, bxb17c4, bxb17c5, bxb17c6⟩ := bxb_14.out.cells
  go_wp2_with fail
  clear bxb17c0 bxb17c1 bxb17c2 bxb17c3 bxb17c4 bxb17c5 bxb17c6
  refine (impl_Merge.ok k c' s' lo' hi' true (U'.out.below HB_16.out) K2.out).mono ?_
  rintro e w2 ⟨rfl, hb⟩
  have bxa_19 := Aside0.mk (bxa_13.out.below hb)
  have bxb_20 := Aside0.mk (bxb_14.out.below hb)
  have bxo_21 := Aside0.mk (bxo_15.out.below hb)
  have HB_22 := Aside0.mk (below_step HB_16.out hb)
  have Z_23 := Aside0.mk (hb.size)
  clear bxa_13 bxb_14 bxo_15 HB_16 hb
  obtain ⟨bxa23c0, bxa23c1, bxa23c2, bxa23c3, bxa23c4, bxa23c5, bxa23c6⟩ := bxa_19.out.cells
  go_wp2_with fail
  clear bxa23c0 bxa23c1 bxa23c2 bxa23c3 bxa23c4 bxa23c5 bxa23c6
  refine (impl_Merge.cp k c s lo hi (U.out.below HB_22.out) K3.out).mono ?_
  rintro e w3 ⟨x1, y1, z1, a1, b1, rfl, hs, hm, hb⟩
  have S_25 := Aside0.mk hs
  clear hs
  have Z_26 := Aside0.mk hm
  clear hm
  unfold Made at Z_26
  have bxa_27 := Aside0.mk (bxa_19.out.below hb)
  have bxb_28 := Aside0.mk (bxb_20.out.below hb)
  have bxo_29 := Aside0.mk (bxo_21.out.below hb)
  have HB_30 := Aside0.mk (below_step HB_22.out hb)
  have Z_31 := Aside0.mk (hb.size)
  clear bxa_19 bxb_20 bxo_21 HB_22 hb
  obtain ⟨gx, cx, gy, cy, gz, cz, rfl, rfl, rfl⟩ := S_25.out.named (by have := L.out; omega) (by have := L.out; omega) (by have := L.out; omega)
  obtain ⟨bxa31c0, bxa31c1, bxa31c2, bxa31c3, bxa31c4, bxa31c5, bxa31c6⟩ := bxa_27.out.cellsA
  obtain ⟨bxb32c0, bxb32c1, bxb32c2, bxb32c3, bxb32c4, bxb32c5, bxb32c6⟩ := bxb_28.out.cellsA
  go_wp2_with fail
  clear bxa31c0 bxa31c1 bxa31c2 bxa31c3 bxa31c4 bxa31c5 bxa31c6 bxb32c0 bxb32c1 bxb32c2 bxb32c3 bxb32c4 bxb32c5 bxb32c6
  first | rw [show (#[.int .i64 c, .int .i64 s, .int .i64 lo', .int .i64 m3, .slice (some ⟨gx, 0, none⟩) h.length cx, .slice (some ⟨gy, 0, none⟩) r.length cy, .slice (some ⟨gz, 0, none⟩) R.length cz] : Array Value) = #[.int .i64 c, .int .i64 s, .int .i64 m2, .int .i64 m3, .slice (some ⟨gx, 0, none⟩) h.length cx, .slice (some ⟨gy, 0, none⟩) r.length cy, .slice (some ⟨gz, 0, none⟩) R.length cz] from by rw [HM.out]] | rw [show (#[.int .i64 c, .int .i64 s, .int .i64 lo, .int .i64 m3, .slice (some ⟨gx, 0, none⟩) h.length cx, .slice (some ⟨gy, 0, none⟩) r.length cy, .slice (some ⟨gz, 0, none⟩) R.length cz] : Array Value) = #[.int .i64 c, .int .i64 s, .int .i64 m2, .int .i64 m3, .slice (some ⟨gx, 0, none⟩) h.length cx, .slice (some ⟨gy, 0, none⟩) r.length cy, .slice (some ⟨gz, 0, none⟩) R.length cz] from by rw [HM.out]]
  have bxa_34 := Aside0.mk (bxa_27.out.below (below_alloc (Below.refl _ w3) (.cells #[.int .i64 c, .int .i64 s, .int .i64 m2, .int .i64 m3, .slice (some ⟨gx, 0, none⟩) h.length cx, .slice (some ⟨gy, 0, none⟩) r.length cy, .slice (some ⟨gz, 0, none⟩) R.length cz] 26)))
  have bxb_35 := Aside0.mk (bxb_28.out.below (below_alloc (Below.refl _ w3) (.cells #[.int .i64 c, .int .i64 s, .int .i64 m2, .int .i64 m3, .slice (some ⟨gx, 0, none⟩) h.length cx, .slice (some ⟨gy, 0, none⟩) r.length cy, .slice (some ⟨gz, 0, none⟩) R.length cz] 26)))
  have bxo_36 := Aside0.mk (bxo_29.out.below (below_alloc (Below.refl _ w3) (.cells #[.int .i64 c, .int .i64 s, .int .i64 m2, .int .i64 m3, .slice (some ⟨gx, 0, none⟩) h.length cx, .slice (some ⟨gy, 0, none⟩) r.length cy, .slice (some ⟨gz, 0, none⟩) R.length cz] 26)))
  have S_37 := Aside0.mk (S_25.out.below (below_alloc (Below.refl _ w3) (.cells #[.int .i64 c, .int .i64 s, .int .i64 m2, .int .i64 m3, .slice (some ⟨gx, 0, none⟩) h.length cx, .slice (some ⟨gy, 0, none⟩) r.length cy, .slice (some ⟨gz, 0, none⟩) R.length cz] 26)))
  have HB_38 := Aside0.mk (below_step HB_30.out (below_alloc (Below.refl _ w3) (.cells #[.int .i64 c, .int .i64 s, .int .i64 m2, .int .i64 m3, .slice (some ⟨gx, 0, none⟩) h.length cx, .slice (some ⟨gy, 0, none⟩) r.length cy, .slice (some ⟨gz, 0, none⟩) R.length cz] 26)))
  have Z_39 := Aside0.mk (show (w3.alloc (.cells #[.int .i64 c, .int .i64 s, .int .i64 m2, .int .i64 m3, .slice (some ⟨gx, 0, none⟩) h.length cx, .slice (some ⟨gy, 0, none⟩) r.length cy, .slice (some ⟨gz, 0, none⟩) R.length cz] 26)).heap.size = w3.heap.size + 1 by simp)
  have bx6_40 := Aside0.mk (Bx.new w3 26 #[.int .i64 c, .int .i64 s, .int .i64 m2, .int .i64 m3, .slice (some ⟨gx, 0, none⟩) h.length cx, .slice (some ⟨gy, 0, none⟩) r.length cy, .slice (some ⟨gz, 0, none⟩) R.length cz])
  clear bxa_27 bxb_28 bxo_29 S_25 HB_30
  refine (impl_Add.calls c c' (sadd c c') _ ad0.out).mono ?_
  rintro e w4 ⟨rfl, hb⟩
  have bxa_41 := Aside0.mk (bxa_34.out.below hb)
  have bxb_42 := Aside0.mk (bxb_35.out.below hb)
  have bxo_43 := Aside0.mk (bxo_36.out.below hb)
  have S_44 := Aside0.mk (S_37.out.below hb)
  have bx6_45 := Aside0.mk (bx6_40.out.below hb)
  have HB_46 := Aside0.mk (below_step HB_38.out hb)
  have Z_47 := Aside0.mk (hb.size)
  clear bxa_34 bxb_35 bxo_36 S_37 bx6_40 HB_38 hb
  obtain ⟨bxa47c0, bxa47c1, bxa47c2, bxa47c3, bxa47c4, bxa47c5, bxa47c6⟩ := bxa_41.out.cells
  obtain ⟨bxb48c0, bxb48c1, bxb48c2, bxb48c3, bxb48c4, bxb48c5, bxb48c6⟩ := bxb_42.out.cells
  obtain ⟨bx649c0, bx649c1, bx649c2, bx649c3, bx649c4, bx649c5, bx649c6⟩ := bx6_45.out.cells
  have fz51 := bx6_45.out.fz
  have ne52 : w.heap.size ≠ w3.heap.size := by have := Z_2.out; have := Z_6.out; have := Z_11.out; have := Z_17.out; have := Z_23.out; have := Z_26.out; have := Z_31.out; have := Z_39.out; have := Z_47.out; omega
  have ne53 : w3.heap.size ≠ w.heap.size := by have := Z_2.out; have := Z_6.out; have := Z_11.out; have := Z_17.out; have := Z_23.out; have := Z_26.out; have := Z_31.out; have := Z_39.out; have := Z_47.out; omega
  have ne54 : w.heap.size + 1 ≠ w3.heap.size := by have := Z_2.out; have := Z_6.out; have := Z_11.out; have := Z_17.out; have := Z_23.out; have := Z_26.out; have := Z_31.out; have := Z_39.out; have := Z_47.out; omega
  have ne55 : w3.heap.size ≠ w.heap.size + 1 := by have := Z_2.out; have := Z_6.out; have := Z_11.out; have := Z_17.out; have := Z_23.out; have := Z_26.out; have := Z_31.out; have := Z_39.out; have := Z_47.out; omega
  go_wp2_with fail
  clear bxa47c0 bxa47c1 bxa47c2 bxa47c3 bxa47c4 bxa47c5 bxa47c6 bxb48c0 bxb48c1 bxb48c2 bxb48c3 bxb48c4 bxb48c5 bxb48c6 bx649c0 bx649c1 bx649c2 bx649c3 bx649c4 bx649c5 bx649c6 fz51 ne52 ne53 ne54 ne55
  have KS_56 := Aside0.mk (Kp.set (w := w4) (a := w3.heap.size) (b := w3.heap.size + 1) (j := 0) ⟨Nat.le_refl _, Nat.lt_succ_self _⟩ (.int .i64 (sadd c c')))
  have bxa_57 := Aside0.mk (bxa_41.out.kp KS_56.out Z7x5)
  have bxb_58 := Aside0.mk (bxb_42.out.kp KS_56.out Z7x5)
  have bxo_59 := Aside0.mk (bxo_43.out.kp KS_56.out Z7x5)
  have S_60 := Aside0.mk (S_44.out.kp KS_56.out Z7x5)
  have bx6_61 := Aside0.mk (show Bx (w4.setCell ⟨w3.heap.size, 0, none⟩ (.int .i64 (sadd c c'))) (w3.heap.size) 26 #[.int .i64 (sadd c c'), .int .i64 s, .int .i64 m2, .int .i64 m3, .slice (some ⟨gx, 0, none⟩) h.length cx, .slice (some ⟨gy, 0, none⟩) r.length cy, .slice (some ⟨gz, 0, none⟩) R.length cz] from blk_put bx6_45.out 0 _ rfl)
  have HB_62 := Aside0.mk (below_kp HB_46.out KS_56.out Z7x5 HB_46.out.size)
  have Z_63 := Aside0.mk (show (w4.setCell ⟨w3.heap.size, 0, none⟩ (.int .i64 (sadd c c'))).heap.size = w4.heap.size by simp)
  clear bxa_41 bxb_42 bxo_43 S_44 bx6_45 HB_46 KS_56
  refine (impl_Add.calls s s' (sadd s s') _ ad1.out).mono ?_
  rintro e w5 ⟨rfl, hb⟩
  have bxa_64 := Aside0.mk (bxa_57.out.below hb)
  have bxb_65 := Aside0.mk (bxb_58.out.below hb)
  have bxo_66 := Aside0.mk (bxo_59.out.below hb)
  have S_67 := Aside0.mk (S_60.out.below hb)
  have bx6_68 := Aside0.mk (bx6_61.out.below hb)
  have HB_69 := Aside0.mk (below_step HB_62.out hb)
  have Z_70 := Aside0.mk (hb.size)
  clear bxa_57 bxb_58 bxo_59 S_60 bx6_61 HB_62 hb
  clear bxa_64
  obtain ⟨bxb70c0, bxb70c1, bxb70c2, bxb70c3, bxb70c4, bxb70c5, bxb70c6⟩ := bxb_65.out.cells
  obtain ⟨bx671c0, bx671c1, bx671c2, bx671c3, bx671c4, bx671c5, bx671c6⟩ := bx6_68.out.cells
  have fz73 := bx6_68.out.fz
  have ne74 : w.heap.size + 1 ≠ w3.heap.size := by have := Z_2.out; have := Z_6.out; have := Z_11.out; have := Z_17.out; have := Z_23.out; have := Z_26.out; have := Z_31.out; have := Z_39.out; have := Z_47.out; have := Z_63.out; have := Z_70.out; omega
  have ne75 : w3.heap.size ≠ w.heap.size + 1 := by have := Z_2.out; have := Z_6.out; have := Z_11.out; have := Z_17.out; have := Z_23.out; have := Z_26.out; have := Z_31.out; have := Z_39.out; have := Z_47.out; have := Z_63.out; have := Z_70.out; omega
  go_wp2_with fail
  clear bxb70c0 bxb70c1 bxb70c2 bxb70c3 bxb70c4 bxb70c5 bxb70c6 bx671c0 bx671c1 bx671c2 bx671c3 bx671c4 bx671c5 bx671c6 fz73 ne74 ne75
  have KS_76 := Aside0.mk (Kp.set (w := w5) (a := w3.heap.size) (b := w3.heap.size + 1) (j := 1) ⟨Nat.le_refl _, Nat.lt_succ_self _⟩ (.int .i64 (sadd s s')))
  have bxb_77 := Aside0.mk (bxb_65.out.kp KS_76.out Z7x6)
  have bxo_78 := Aside0.mk (bxo_66.out.kp KS_76.out Z7x6)
  have S_79 := Aside0.mk (S_67.out.kp KS_76.out Z7x6)
  have bx6_80 := Aside0.mk (show Bx (w5.setCell ⟨w3.heap.size, 1, none⟩ (.int .i64 (sadd s s'))) (w3.heap.size) 26 #[.int .i64 (sadd c c'), .int .i64 (sadd s s'), .int .i64 m2, .int .i64 m3, .slice (some ⟨gx, 0, none⟩) h.length cx, .slice (some ⟨gy, 0, none⟩) r.length cy, .slice (some ⟨gz, 0, none⟩) R.length cz] from blk_put bx6_68.out 1 _ rfl)
  have HB_81 := Aside0.mk (below_kp HB_69.out KS_76.out Z7x6 HB_69.out.size)
  have Z_82 := Aside0.mk (show (w5.setCell ⟨w3.heap.size, 1, none⟩ (.int .i64 (sadd s s'))).heap.size = w5.heap.size by simp)
  clear bxb_65 bxo_66 S_67 bx6_68 HB_69 KS_76

  go_loopg [65] 8 (fun gg s1 wr => ∃ i : Nat, i ≤ 8 ∧ 8 - i ≤ gg ∧ s1 = .int .i64 i ∧ Aside0 (MInv w wr a1 b1 (w.heap.size + 1) (w.heap.size + 1 + 1) w3.heap.size ⟨some ⟨gx, 0, none⟩, h.length, cx⟩ ⟨some ⟨gy, 0, none⟩, r.length, cy⟩ ⟨some ⟨gz, 0, none⟩, R.length, cz⟩ #[.int .i64 c', .int .i64 s', .int .i64 lo', .int .i64 hi', .slice B4 h'.length d4, .slice B5 r'.length d5, .slice B6 R'.length d6] #[.int .i64 (sadd c c'), .int .i64 (sadd s s'), .int .i64 m2, .int .i64 m3, .slice (some ⟨gx, 0, none⟩) h.length cx, .slice (some ⟨gy, 0, none⟩) r.length cy, .slice (some ⟨gz, 0, none⟩) R.length cz] (mix2 HZ h i) r R))
  case atStart => exact ⟨0, by omega, by omega, rfl, ⟨⟨by rw [mix2_zero]; exact S_79.out, bxb_77.out, bxo_78.out, bx6_80.out, HB_81.out, Z7x3, Z7x3, Z7x3, Z7x3⟩⟩⟩
  case round =>
   clear bxb_77 bxo_78 S_79 bx6_80 HB_81
   obtain ⟨i, hi, hg, rfl, M⟩ := hrel
   obtain ⟨l1, l2, l3, l4, l5, l6⟩ := L.out
   by_cases hlt : i < 8
   ·have hltz : (i : Int) < (h'.length : Int) := by omega
    have hltz2 : (i : Int) < (h.length : Int) := by omega
    have h0z : (0 : Int) ≤ (i : Int) := by omega
    have zl : HZ.length = h.length := by have := LZ.out; omega
    have UC : (Kd.int .i64).C wr B4 h'.length h' := (U'.out.below M.out.L).C4;obtain ⟨ad, eB, gB⟩ := ints_at UC i (by omega);have M1 := Aside0.mk (M.out.below (below_drew (Below.refl _ wr)));obtain ⟨P, _⟩ := M.out.S.hN (by rw [mix2_length zl]; omega);have pc := P.at_ (i := i) (by rw [mix2_length zl]; omega);rw [mix2_getD zl (by omega)] at pc;have pf := P.fz i;have PUT := Aside0.mk ((M1.out.S.hN (by rw [mix2_length zl]; omega)).2 i (HZ.getD i 0));rw [mix2_setD zl (by omega)] at PUT;have AHi := Aside0.mk (AH.out i hlt);obtain ⟨x0, x1, x2, x3, x4, x5, x6⟩ := M.out.X.cells;obtain ⟨n1, n2, n3, n4⟩ := M.out.ne6 P;clear P UC zl l1 l2 l3 l4 l5 l6;generalize h'.getD i 0 = v1 at *;generalize h.getD i 0 = v2 at *;generalize HZ.getD i 0 = v3 at *;subst eB
    go_wp2_with fail
    refine wp_region_still_tail 10 (by kernel_rfl) (by kernel_rfl) ?_;simp only [List.take_succ_cons, List.take_zero, List.drop_succ_cons, List.drop_zero]
    change wpStill _ _ wr.drew _ _ _
    repeat (first | still_step | still_call (impl_Add.still v2 v1 v3 _ AHi.out))
    refine wpStill_nil ?_
    change wpList _ _ _ _ _ wr.drew
    go_wp2
    go_roundg (8 - (i + 1))
    case measure => omega
    case rel => exact ⟨i + 1, by omega, by omega, by go_num, ⟨M1.out.kp PUT.out.2 PUT.out.1⟩⟩
   ·have : i = 8 := by omega
    subst this;rw [mix2_all (by have := LZ.out; omega) (by omega)] at M
    have hltz : ¬ ((8 : Nat) : Int) < (h'.length : Int) := by omega
    clear l1 l2 l3 l4 l5 l6 hg hi hlt;obtain ⟨x0, x1, x2, x3, x4, x5, x6⟩ := M.out.B.cells
    go_wp2
    clear hltz x0 x1 x2 x3 x4 x5 x6

    go_loopg [85] 8 (fun gg s1 wr => ∃ i : Nat, i ≤ 8 ∧ 8 - i ≤ gg ∧ s1 = .int .i64 i ∧ Aside0 (MInv w wr a1 b1 (w.heap.size + 1) (w.heap.size + 1 + 1) w3.heap.size ⟨some ⟨gx, 0, none⟩, h.length, cx⟩ ⟨some ⟨gy, 0, none⟩, r.length, cy⟩ ⟨some ⟨gz, 0, none⟩, R.length, cz⟩ #[.int .i64 c', .int .i64 s', .int .i64 lo', .int .i64 hi', .slice B4 h'.length d4, .slice B5 r'.length d5, .slice B6 R'.length d6] #[.int .i64 (sadd c c'), .int .i64 (sadd s s'), .int .i64 m2, .int .i64 m3, .slice (some ⟨gx, 0, none⟩) h.length cx, .slice (some ⟨gy, 0, none⟩) r.length cy, .slice (some ⟨gz, 0, none⟩) R.length cz] HZ (mix2 RZ r i) R))
    case atStart => exact ⟨0, by omega, by omega, rfl, ⟨by rw [mix2_zero]; exact M.out⟩⟩
    case round =>
     clear M;obtain ⟨i, hi, hg, rfl, M⟩ := hrel;obtain ⟨l1, l2, l3, l4, l5, l6⟩ := L.out
     by_cases hlt : i < 8
     ·have hltz : (i : Int) < (r'.length : Int) := by omega
      have hltz2 : (i : Int) < (r.length : Int) := by omega
      have h0z : (0 : Int) ≤ (i : Int) := by omega
      have zl : RZ.length = r.length := by have := LZ.out; omega
      have UC : (Kd.int .i64).C wr B5 r'.length r' := (U'.out.below M.out.L).C5;obtain ⟨ad, eB, gB⟩ := ints_at UC i (by omega);have M1 := Aside0.mk (M.out.below (below_drew (Below.refl _ wr)));obtain ⟨P, _⟩ := M.out.S.rN (by rw [mix2_length zl]; omega);have pc := P.at_ (i := i) (by rw [mix2_length zl]; omega);rw [mix2_getD zl (by omega)] at pc;have pf := P.fz i;have PUT := Aside0.mk ((M1.out.S.rN (by rw [mix2_length zl]; omega)).2 i (RZ.getD i 0));rw [mix2_setD zl (by omega)] at PUT;have AHi := AR.out i hlt;have AHj : (if r.getD i 0 < r'.getD i 0 then r'.getD i 0 else r.getD i 0) = RZ.getD i 0 := AHi;obtain ⟨x0, x1, x2, x3, x4, x5, x6⟩ := M.out.X.cells;obtain ⟨n1, n2, n3, n4⟩ := M.out.ne6 P;clear P UC zl l1 l2 l3 l4 l5 l6;generalize r'.getD i 0 = v1 at *;generalize r.getD i 0 = v2 at *;generalize RZ.getD i 0 = v3 at *;subst eB
      go_wp2_with fail
      refine wp_region_still_tail 10 (by kernel_rfl) (by kernel_rfl) ?_;simp only [List.take_succ_cons, List.take_zero, List.drop_succ_cons, List.drop_zero]
      change wpStill _ _ wr.drew _ _ _
      repeat (first | still_step)
      refine wpStill_nil ?_
      change wpList _ _ _ _ _ wr.drew
      go_wp2
      go_roundg (8 - (i + 1))
      case measure => omega
      case rel => exact ⟨i + 1, by omega, by omega, by go_num, ⟨M1.out.kp PUT.out.2 PUT.out.1⟩⟩
     ·have : i = 8 := by omega
      subst this;rw [mix2_all (by have := LZ.out; omega) (by omega)] at M
      have hltz : ¬ ((8 : Nat) : Int) < (r'.length : Int) := by omega
      clear l1 l2 l3 l4 l5 l6 hg hi hlt;obtain ⟨x0, x1, x2, x3, x4, x5, x6⟩ := M.out.B.cells
      go_wp2
      clear hltz x0 x1 x2 x3 x4 x5 x6

      go_loopg [105] 2 (fun gg s1 wr => ∃ i : Nat, i ≤ 2 ∧ 2 - i ≤ gg ∧ s1 = .int .i64 i ∧ Aside0 (MInv w wr a1 b1 (w.heap.size + 1) (w.heap.size + 1 + 1) w3.heap.size ⟨some ⟨gx, 0, none⟩, h.length, cx⟩ ⟨some ⟨gy, 0, none⟩, r.length, cy⟩ ⟨some ⟨gz, 0, none⟩, R.length, cz⟩ #[.int .i64 c', .int .i64 s', .int .i64 lo', .int .i64 hi', .slice B4 h'.length d4, .slice B5 r'.length d5, .slice B6 R'.length d6] #[.int .i64 (sadd c c'), .int .i64 (sadd s s'), .int .i64 m2, .int .i64 m3, .slice (some ⟨gx, 0, none⟩) h.length cx, .slice (some ⟨gy, 0, none⟩) r.length cy, .slice (some ⟨gz, 0, none⟩) R.length cz] HZ RZ (mix2 WZ R i)))
      case atStart => exact ⟨0, by omega, by omega, rfl, ⟨by rw [mix2_zero]; exact M.out⟩⟩
      case round =>
       clear M;obtain ⟨i, hi, hg, rfl, M⟩ := hrel
       by_cases hlt : i < 2
       ·have hltz : (i : Int) < (R'.length : Int) := by have := L.out; omega
        have h0z : (0 : Int) ≤ (i : Int) := by omega
        obtain ⟨ad, B0, c0, eB, gB, UC⟩ := rows_at U'.out.C6 i (by have := L.out; show i < R'.length; omega);have gB2 := pw_cell_below M.out.L gB;obtain ⟨w1, w2, w3_, AW⟩ := AW0.out i hlt;have WL := Aside0.mk (show (WZ.getD i []).length = (R.getD i []).length ∧ (R'.getD i []).length = 4 ∧ (R.getD i []).length = 4 from by omega);have UCA := Aside0.mk UC;have AWA := Aside0.mk AW;have hb4 : B6 = some ad := eB;clear gB eB UC AW w1 w2 w3_;generalize hq' : R'.getD i [] = q' at *;generalize hq : R.getD i [] = q at *;generalize hQ : WZ.getD i [] = Q at *;have Q1 := Aside0.mk hq;have Q2 := Aside0.mk hQ;clear hq hq' hQ;subst hb4
        go_wp2
        go_loopg [112] 4 (fun gg s1 wr => ∃ j : Nat, j ≤ 4 ∧ 4 - j ≤ gg ∧ s1 = .int .i64 j ∧ Aside0 (MInv w wr a1 b1 (w.heap.size + 1) (w.heap.size + 1 + 1) w3.heap.size ⟨some ⟨gx, 0, none⟩, h.length, cx⟩ ⟨some ⟨gy, 0, none⟩, r.length, cy⟩ ⟨some ⟨gz, 0, none⟩, R.length, cz⟩ #[.int .i64 c', .int .i64 s', .int .i64 lo', .int .i64 hi', .slice B4 h'.length d4, .slice B5 r'.length d5, .slice (some ad) R'.length d6] #[.int .i64 (sadd c c'), .int .i64 (sadd s s'), .int .i64 m2, .int .i64 m3, .slice (some ⟨gx, 0, none⟩) h.length cx, .slice (some ⟨gy, 0, none⟩) r.length cy, .slice (some ⟨gz, 0, none⟩) R.length cz] HZ RZ ((mix2 WZ R i).set i (mix2 Q q j))))
        case atStart => exact ⟨0, by omega, by omega, rfl, ⟨by
         have e : (mix2 WZ R i).getD i [] = q := by rw [mix2_getD (by have := LZ.out; have := L.out; omega) (by have := L.out; omega), Q1.out]
         rw [mix2_zero, ← e, set_same (by rw [mix2_length (by have := LZ.out; have := L.out; omega)]; have := L.out; omega)]
         exact M.out⟩⟩
        case round =>
         clear M gB2;obtain ⟨j, hj, hgj, rfl, M⟩ := hrel
         have iR : i < (mix2 WZ R i).length := by rw [mix2_length (by have := LZ.out; have := L.out; omega)]; have := L.out; omega
         by_cases hjt : j < 4
         ·have hjz : (j : Int) < (q'.length : Int) := by have := WL.out; omega
          have hjz2 : (j : Int) < (q.length : Int) := by have := WL.out; omega
          have hjz0 : (0 : Int) ≤ (j : Int) := by omega
          have hiz2 : (i : Int) < (R.length : Int) := by have := L.out; omega
          obtain ⟨ad2, eB2, gB2⟩ := ints_at (Kd.C_below UCA.out M.out.L) j (by have := WL.out; omega);have M1 := Aside0.mk (M.out.below (below_drew (Below.refl _ wr)));have zl : Q.length = q.length := WL.out.1
          have iR2 : i < ((mix2 WZ R i).set i (mix2 Q q j)).length := by rw [List.length_set]; exact iR
          have eR : ((mix2 WZ R i).set i (mix2 Q q j))[i] = mix2 Q q j := List.getElem_set_self _
          have eL : ((mix2 WZ R i).set i (mix2 Q q j))[i].length = q.length := by rw [eR, mix2_length zl]
          obtain ⟨p, cp, gp, P, put0⟩ := M.out.S.rowN i iR2 (by rw [eL]; have := WL.out; omega);obtain ⟨p1, cp1, gp1, P1, put1⟩ := M1.out.S.rowN i iR2 (by rw [eL]; have := WL.out; omega)
          have hpp : p1 = p ∧ cp1 = cp := by
           have h9 : wr.cell? ⟨gz, i, none⟩ = _ := gp1;rw [gp] at h9;simp only [Option.some.injEq, Value.slice.injEq, Addr.mk.injEq] at h9;exact ⟨h9.1.1.symm, h9.2.2.symm⟩
          obtain ⟨rfl, rfl⟩ := hpp;rw [eL] at gp;have pc := P.at_ (i := j) (by rw [eL]; have := WL.out; omega);have pf := P.fz j;have PUT := Aside0.mk (put1 j (Q.getD j 0));rw [eR] at pc PUT;rw [mix2_getD zl (by omega)] at pc;rw [mix2_setD zl (by omega), List.set_set] at PUT;have AHi := Aside0.mk (AWA.out j hjt);obtain ⟨x0, x1, x2, x3, x4, x5, x6⟩ := M.out.X.cells;obtain ⟨n1, n2, n3, n4⟩ := M.out.ne6 P;clear put0 put1;clear P P1 gp1 zl eR eL iR2 iR;generalize q'.getD j 0 = v1 at *;generalize q.getD j 0 = v2 at *;generalize Q.getD j 0 = v3 at *;subst eB2
          go_wp2_with fail
          refine wp_region_still_tail 16 (by kernel_rfl) (by kernel_rfl) ?_;simp only [List.take_succ_cons, List.take_zero, List.drop_succ_cons, List.drop_zero]
          change wpStill _ _ wr.drew _ _ _
          repeat (first | still_step | still_call (impl_Add.still v2 v1 v3 _ AHi.out))
          refine wpStill_nil ?_
          change wpList _ _ _ _ _ wr.drew
          go_wp2
          go_roundg (4 - (j + 1))
          case measure => omega
          case rel => exact ⟨j + 1, by omega, by omega, by go_num, ⟨M1.out.kp PUT.out.2 PUT.out.1⟩⟩
         ·have : j = 4 := by omega
          subst this
          have hjz : ¬ ((4 : Nat) : Int) < (q'.length : Int) := by have := WL.out; omega
          rw [mix2_all WL.out.1 (by have := WL.out; omega), ← Q2.out, mix2_setD (by have := LZ.out; have := L.out; omega) (by have := L.out; omega)] at M;clear iR
          go_wp2
          go_roundg (2 - (i + 1))
          case measure => omega
          case rel => exact ⟨i + 1, by omega, by omega, by go_num, ⟨M.out⟩⟩
       ·have : i = 2 := by omega
        subst this
        have hltz : ¬ ((2 : Nat) : Int) < (R'.length : Int) := by have := L.out; omega
        rw [mix2_all (by have := LZ.out; have := L.out; omega) (by have := L.out; omega)] at M;obtain ⟨x0, x1, x2, x3, x4, x5, x6⟩ := M.out.X.cells;obtain ⟨y0, y1, y2, y3, y4, y5, y6⟩ := M.out.O.cells;have fo := M.out.O.fz
        go_wp2
        refine bodyPost_ret (results_ct rfl _ _ (w.heap.size + 1 + 1) 26 #[.int .i64 (sadd c c'), .int .i64 (sadd s s'), .int .i64 m2, .int .i64 m3, .slice (some ⟨gx, 0, none⟩) h.length cx, .slice (some ⟨gy, 0, none⟩) r.length cy, .slice (some ⟨gz, 0, none⟩) R.length cz] (0, 0) _ rfl (M.out.O.fill _ _ _ _ _ _ _).1 Try.underlying26 rfl (by kernel_rfl)) rfl ?_;exact M.out.out (by omega) Z7x3 _ _ _ _ _

def impl_Merge.f (k : Nat) (a0_0 : Int) (a0_1 : Int) (a0_2 : Int) (a0_3 : Int) (l0_4 : List Int) (l0_5 : List Int) (l0_6 : List (List Int)) (a1_0 : Int) (a1_1 : Int) (a1_2 : Int) (a1_3 : Int) (l1_4 : List Int) (l1_5 : List Int) (l1_6 : List (List Int)) : Option (Int × Int × Int × Int × List Int × List Int × (List (List Int)) × Bool) := (impl_SketchOk.f k a0_0 a0_1 a0_2 a0_3 l0_4 l0_5 l0_6).bind fun t1 => if t1 = true then ((impl_SketchOk.f k a1_0 a1_1 a1_2 a1_3 l1_4 l1_5 l1_6).bind fun t2 => if t2 = true then ((impl_copySketch.f k a0_0 a0_1 a0_2 a0_3 l0_4 l0_5 l0_6).bind fun t => if (t.1 = a0_0 ∧ t.2.1 = a0_1 ∧ t.2.2.1 = a0_2 ∧ t.2.2.2.1 = a0_3 ∧ t.2.2.2.2.1 = l0_4 ∧ t.2.2.2.2.2.1 = l0_5 ∧ t.2.2.2.2.2.2 = l0_6) ∧ impl_Merge.G a0_0 a0_1 l0_4 l0_5 l0_6 a1_0 a1_1 l1_4 l1_5 l1_6 then some (sadd a0_0 a1_0, sadd a0_1 a1_1, impl_Merge.lo a0_0 a0_2 a1_0 a1_2, mx a0_3 a1_3, List.zipWith sadd l0_4 l1_4, List.zipWith hi2 l0_5 l1_5, List.zipWith (List.zipWith sadd) l0_6 l1_6, true) else none) else some (0, 0, 0, 0, [], [], [], false)) else some (0, 0, 0, 0, [], [], [], false)
theorem impl_Merge.mono : ∀ a0_0 a0_1 a0_2 a0_3 l0_4 l0_5 l0_6 a1_0 a1_1 a1_2 a1_3 l1_4 l1_5 l1_6 k, LeO (impl_Merge.f k a0_0 a0_1 a0_2 a0_3 l0_4 l0_5 l0_6 a1_0 a1_1 a1_2 a1_3 l1_4 l1_5 l1_6) (impl_Merge.f (k + 1) a0_0 a0_1 a0_2 a0_3 l0_4 l0_5 l0_6 a1_0 a1_1 a1_2 a1_3 l1_4 l1_5 l1_6) := by
 intro a0_0 a0_1 a0_2 a0_3 l0_4 l0_5 l0_6 a1_0 a1_1 a1_2 a1_3 l1_4 l1_5 l1_6 k
 unfold impl_Merge.f
 exact LeO.bind (impl_SketchOk.mono _ _ _ _ _ _ _ _) (fun _ => LeO.ite (LeO.bind (impl_SketchOk.mono _ _ _ _ _ _ _ _) (fun _ => LeO.ite (LeO.bind (impl_copySketch.mono _ _ _ _ _ _ _ _) (fun _ => LeO.refl _)) (LeO.refl _))) (LeO.refl _))
theorem impl_Merge.calls (k : Nat) (a0_0 : Int) (a0_1 : Int) (a0_2 : Int) (a0_3 : Int) (A0_4 : Option Addr) (c0_4 : Nat) (l0_4 : List Int) (A0_5 : Option Addr) (c0_5 : Nat) (l0_5 : List Int) (A0_6 : Option Addr) (c0_6 : Nat) (l0_6 : List (List Int)) (a1_0 : Int) (a1_1 : Int) (a1_2 : Int) (a1_3 : Int) (A1_4 : Option Addr) (c1_4 : Nat) (l1_4 : List Int) (A1_5 : Option Addr) (c1_5 : Nat) (l1_5 : List Int) (A1_6 : Option Addr) (c1_6 : Nat) (l1_6 : List (List Int)) (r1 : Int) (r2 : Int) (r3 : Int) (r4 : Int) (r5 : List Int) (r6 : List Int) (r7 : List (List Int)) (r8 : Bool) (w : World) (hr0_4 : Kd.C (Kd.int .i64) w A0_4 l0_4.length l0_4) (hc0_4 : l0_4.length ≤ c0_4) (hr0_5 : Kd.C (Kd.int .i64) w A0_5 l0_5.length l0_5) (hc0_5 : l0_5.length ≤ c0_5) (hr0_6 : Kd.C (Kd.slice 3 (Kd.int .i64)) w A0_6 l0_6.length l0_6) (hc0_6 : l0_6.length ≤ c0_6) (hr1_4 : Kd.C (Kd.int .i64) w A1_4 l1_4.length l1_4) (hc1_4 : l1_4.length ≤ c1_4) (hr1_5 : Kd.C (Kd.int .i64) w A1_5 l1_5.length l1_5) (hc1_5 : l1_5.length ≤ c1_5) (hr1_6 : Kd.C (Kd.slice 3 (Kd.int .i64)) w A1_6 l1_6.length l1_6) (hc1_6 : l1_6.length ≤ c1_6) (h : impl_Merge.f k a0_0 a0_1 a0_2 a0_3 l0_4 l0_5 l0_6 a1_0 a1_1 a1_2 a1_3 l1_4 l1_5 l1_6 = some (r1, r2, r3, r4, r5, r6, r7, r8)) :
  Calls Try.prog 20 #[.agg #[.int .i64 a0_0, .int .i64 a0_1, .int .i64 a0_2, .int .i64 a0_3, .slice A0_4 l0_4.length c0_4, .slice A0_5 l0_5.length c0_5, .slice A0_6 l0_6.length c0_6], .agg #[.int .i64 a1_0, .int .i64 a1_1, .int .i64 a1_2, .int .i64 a1_3, .slice A1_4 l1_4.length c1_4, .slice A1_5 l1_5.length c1_5, .slice A1_6 l1_6.length c1_6]] w fun e w' => ∃ v4_ v5_ v6_ : Value, e = .returned (.tuple #[.agg #[.int .i64 r1, .int .i64 r2, .int .i64 r3, .int .i64 r4, v4_, v5_, v6_], .bool r8]) ∧ Kd.R (Kd.int .i64) 3 w' w.heap.size (fun k_ => some k_ ≠ (v5_ : Value).ownBlock) v4_ r5 ∧ Kd.R (Kd.int .i64) 3 w' w.heap.size (fun k_ => some k_ ≠ (v4_ : Value).ownBlock) v5_ r6 ∧ Kd.S (Kd.slice 3 (Kd.int .i64)) 23 w' w.heap.size (fun k_ => some k_ ≠ (v4_ : Value).ownBlock ∧ some k_ ≠ (v5_ : Value).ownBlock) v6_ r7 ∧ Below w.heap.size w w' := by
 have u : Rd w ⟨A0_4, l0_4.length, c0_4⟩ ⟨A0_5, l0_5.length, c0_5⟩ ⟨A0_6, l0_6.length, c0_6⟩ l0_4 l0_5 l0_6 := ⟨rfl, rfl, rfl, hc0_4, hc0_5, hc0_6, hr0_4, hr0_5, hr0_6⟩
 have u' : Rd w ⟨A1_4, l1_4.length, c1_4⟩ ⟨A1_5, l1_5.length, c1_5⟩ ⟨A1_6, l1_6.length, c1_6⟩ l1_4 l1_5 l1_6 := ⟨rfl, rfl, rfl, hc1_4, hc1_5, hc1_6, hr1_4, hr1_5, hr1_6⟩
 have key : Calls Try.prog 20 #[.agg #[.int .i64 a0_0, .int .i64 a0_1, .int .i64 a0_2, .int .i64 a0_3, .slice A0_4 l0_4.length c0_4, .slice A0_5 l0_5.length c0_5, .slice A0_6 l0_6.length c0_6], .agg #[.int .i64 a1_0, .int .i64 a1_1, .int .i64 a1_2, .int .i64 a1_3, .slice A1_4 l1_4.length c1_4, .slice A1_5 l1_5.length c1_5, .slice A1_6 l1_6.length c1_6]] w (SkOut w r1 r2 r3 r4 r5 r6 r7 r8) := by
  unfold impl_Merge.f at h
  obtain ⟨t1, h1, h⟩ := Option.bind_eq_some_iff.mp h
  by_cases b1 : t1 = true
  ·subst b1
   rw [if_pos rfl] at h
   obtain ⟨t2, h2, h⟩ := Option.bind_eq_some_iff.mp h
   by_cases b2 : t2 = true
   ·subst b2
    rw [if_pos rfl] at h;obtain ⟨t, h3, h⟩ := Option.bind_eq_some_iff.mp h
    by_cases b3 : (t.1 = a0_0 ∧ t.2.1 = a0_1 ∧ t.2.2.1 = a0_2 ∧ t.2.2.2.1 = a0_3 ∧ t.2.2.2.2.1 = l0_4 ∧ t.2.2.2.2.2.1 = l0_5 ∧ t.2.2.2.2.2.2 = l0_6) ∧ impl_Merge.G a0_0 a0_1 l0_4 l0_5 l0_6 a1_0 a1_1 l1_4 l1_5 l1_6
    ·rw [if_pos b3] at h
     obtain ⟨b4, g1, g2, g3, g4, g5, g6⟩ := b3;obtain ⟨t0, t1, t2, t3, t4, t5, t6⟩ := t;obtain ⟨d0, d1, d2, d3, d4, d5, d6⟩ := b4;simp only at d0 d1 d2 d3 d4 d5 d6;rw [d0, d1, d2, d3, d4, d5, d6] at h3;clear d0 d1 d2 d3 d4 d5 d6;simp only [Option.some.injEq, Prod.mk.injEq] at h;obtain ⟨rfl, rfl, rfl, rfl, rfl, rfl, rfl, rfl⟩ := h;refine impl_Merge.yes k _ _ _ _ _ _ _ _ w u u' ⟨h1⟩ ⟨h2⟩ ⟨h3⟩ ⟨g1⟩ _ _ rfl rfl ⟨g2⟩ ⟨g3⟩ _ _ _ ⟨by simp only [List.length_zipWith]; omega⟩ ⟨g4⟩ ⟨g5⟩ ⟨g6⟩ ⟨?_⟩;unfold impl_Merge.lo
     by_cases e1 : a0_0 = 0
     ·exact .inl ⟨by simp [e1], by rw [if_pos (.inl e1)]⟩
     ·have e1' : (a0_0 == 0) = false := by simp [e1]
      by_cases e2 : a1_0 > 0
      ·by_cases e3 : a1_2 < a0_2
       ·exact .inr (.inr (.inl ⟨e1', by simp [e2], by simp [e3], by rw [if_pos (.inr ⟨e2, e3⟩)]⟩))
       ·exact .inr (.inr (.inr ⟨e1', by simp [e2], by simp; omega, by rw [if_neg (by omega)]⟩))
      ·exact .inr (.inl ⟨e1', by simp; omega, by rw [if_neg (by omega)]⟩)
    ·rw [if_neg b3] at h
     cases h
   ·rw [if_neg b2] at h
    simp only [Option.some.injEq, Prod.mk.injEq] at h;obtain ⟨rfl, rfl, rfl, rfl, rfl, rfl, rfl, rfl⟩ := h
    have : t2 = false := by simpa using b2
    subst this;exact impl_Merge.no2 k _ _ _ _ _ _ _ _ w u u' ⟨h1⟩ ⟨h2⟩
  ·rw [if_neg b1] at h
   simp only [Option.some.injEq, Prod.mk.injEq] at h
   obtain ⟨rfl, rfl, rfl, rfl, rfl, rfl, rfl, rfl⟩ := h
   have : t1 = false := by simpa using b1
   subst this
   exact impl_Merge.no1 k _ _ _ _ _ _ _ _ w u u' ⟨h1⟩
 refine key.mono ?_
 rintro e w' ⟨x, y, z, a, b, rfl, hs, hm, hb⟩
 obtain ⟨k1, k2, k3⟩ := hs.kd hm.1
 exact ⟨_, _, _, rfl, k1, k2, k3, hb⟩

def laws_big.f (l0 : List Int) : Option (Bool) := some (decide ((l0.length : Int) > 1048576))
set_option maxHeartbeats 8000000 in
set_option maxRecDepth 100000 in
theorem laws_big.calls (A0 : Option Addr) (c0 : Nat) (l0 : List Int) (r : Bool) (w : World) (hr0 : Kd.C (Kd.int .u8) w A0 l0.length l0) (hc0 : l0.length ≤ c0) (h : laws_big.f l0 = some r) :
  Calls Try.prog 30 #[.slice A0 l0.length c0] w fun e w' => e = .returned (.bool r) ∧ Drawn0 w w' := by
 have HR0 := Aside0.mk hr0
 have HC0 := Aside0.mk hc0
 clear hr0 hc0
 have H : (some (decide ((l0.length : Int) > 1048576))) = some r := h
 clear h
 obtain rfl := Option.some.inj H
 simp only [Option.some.injEq, Prod.mk.injEq] at H
 obtain ⟨rfl⟩ := H
 go_enter Try.func30, Try.ntmps30
 go_wp2
 go_ret
 exact ⟨by first | rfl | (simp; done) | (simp [*]; done), by repeat (first | exact Drawn0.refl _ | apply Drawn0.step)⟩

def IsS107 (w0 W : World) (g : Nat) (f0 : List Int) (f1 : Int) (f2 : Int) : Prop := ∃ A0 c0, W.heap[g]? = some (.cells #[.slice A0 f0.length c0, .int .i64 f1, .int .i64 f2] 107 (0, 0)) ∧ w0.heap.size ≤ g ∧ Kd.C (Kd.int .u8) w0 A0 f0.length f0
theorem IsS107.grown {w0 W : World} {g : Nat} {f0 : List Int} {f1 : Int} {f2 : Int} {W1 : World} {row : Option Nat} (h : IsS107 w0 W g f0 f1 f2) (hw : W.grownBy W1 row) (hne : some g ≠ row) : IsS107 w0 W1 g f0 f1 f2 := by
 obtain ⟨A0, c0, hb, hg, hr0⟩ := h
 exact ⟨A0, c0, blk_grown hb hw hne, hg, hr0⟩
theorem IsS107.kept {w0 W : World} {g : Nat} {f0 : List Int} {f1 : Int} {f2 : Int} {W1 : World} {S : Nat → Prop} (h : IsS107 w0 W g f0 f1 f2) (hk : Kept W W1 S) (hne : ¬ S g) : IsS107 w0 W1 g f0 f1 f2 := by
 obtain ⟨A0, c0, hb, hg, hr0⟩ := h
 exact ⟨A0, c0, blk_kept hb hk hne, hg, hr0⟩
theorem IsS107.below {w0 W : World} {g : Nat} {f0 : List Int} {f1 : Int} {f2 : Int} {W1 : World} (h : IsS107 w0 W g f0 f1 f2) (hw : Below W.heap.size W W1) : IsS107 w0 W1 g f0 f1 f2 := h.grown (grown_of_below hw none) (by simp)
theorem IsS107.alloc {w0 W : World} {g : Nat} {f0 : List Int} {f1 : Int} {f2 : Int} (h : IsS107 w0 W g f0 f1 f2) (o : Obj) : IsS107 w0 (W.alloc o) g f0 f1 f2 := h.below (below_alloc (Below.refl _ _) o)
theorem IsS107.drewN {w0 W : World} {g : Nat} {f0 : List Int} {f1 : Int} {f2 : Int} (h : IsS107 w0 W g f0 f1 f2) (m : Nat) : IsS107 w0 (W.drewN m) g f0 f1 f2 := h
theorem IsS107.drew {w0 W : World} {g : Nat} {f0 : List Int} {f1 : Int} {f2 : Int} (h : IsS107 w0 W g f0 f1 f2) : IsS107 w0 W.drew g f0 f1 f2 := h
theorem IsS107.at_ {w0 W : World} {g : Nat} {f0 : List Int} {f1 : Int} {f2 : Int} {w' : World} {m : Nat} (hq : W.drewN m = w') (h : IsS107 w0 W g f0 f1 f2) : IsS107 w0 w' g f0 f1 f2 := by subst hq; exact IsS107.drewN h m
theorem IsS107.apart {w0 W : World} {g : Nat} {f0 : List Int} {f1 : Int} {f2 : Int} {α : Type} {d : Kd α} {e : Nat} {base : Nat} {ok : Nat → Prop} {v : Value} {xs : List α} (h : IsS107 w0 W g f0 f1 f2) (ho : d.R e W base ok v xs) (ht : ∀ q, q ∈ e :: d.E → q ≠ 107) : d.R e W base (fun k => ok k ∧ k ≠ g) v xs := by
 obtain ⟨A0, c0, hb, hg, hr0⟩ := h
 exact Kd.R_types ho hb ht
theorem IsS107.own_ne {w0 W : World} {g : Nat} {f0 : List Int} {f1 : Int} {f2 : Int} {α : Type} {d : Kd α} {e : Nat} {base : Nat} {ok : Nat → Prop} {v : Value} {xs : List α} (h : IsS107 w0 W g f0 f1 f2) (ho : d.R e W base ok v xs) (ht : e ≠ 107) : some g ≠ v.ownBlock := by
 obtain ⟨A0, c0, hb, hg, hr0⟩ := h
 exact Kd.R_ne ho hb ht
theorem IsS107.apartS {w0 W : World} {g : Nat} {f0 : List Int} {f1 : Int} {f2 : Int} {α : Type} {d : Kd α} {e : Nat} {base : Nat} {ok : Nat → Prop} {v : Value} {xs : List α} (h : IsS107 w0 W g f0 f1 f2) (ho : d.S e W base ok v xs) (ht : ∀ q, q ∈ e :: d.E → q ≠ 107) : d.S e W base (fun k => ok k ∧ k ≠ g) v xs := by
 obtain ⟨A0, c0, hb, hg, hr0⟩ := h
 exact Kd.S_types ho hb ht
theorem IsS107.own_neS {w0 W : World} {g : Nat} {f0 : List Int} {f1 : Int} {f2 : Int} {α : Type} {d : Kd α} {e : Nat} {base : Nat} {ok : Nat → Prop} {v : Value} {xs : List α} (h : IsS107 w0 W g f0 f1 f2) (ho : d.S e W base ok v xs) (ht : e ≠ 107) : some g ≠ v.ownBlock := by
 obtain ⟨A0, c0, hb, hg, hr0⟩ := h
 exact Kd.S_ne ho hb ht
theorem IsS107.lt {w0 W : World} {g : Nat} {f0 : List Int} {f1 : Int} {f2 : Int} (h : IsS107 w0 W g f0 f1 f2) : g < W.heap.size := by
 obtain ⟨A0, c0, hb, hg, hr0⟩ := h
 exact blk_lt hb
theorem IsS107.ge {w0 W : World} {g : Nat} {f0 : List Int} {f1 : Int} {f2 : Int} (h : IsS107 w0 W g f0 f1 f2) : w0.heap.size ≤ g := by
 obtain ⟨A0, c0, hb, hg, hr0⟩ := h
 exact hg
theorem IsS107.ne_blk {w0 W : World} {g : Nat} {f0 : List Int} {f1 : Int} {f2 : Int} {a : Nat} {cs : Array Value} {t : TypeId} {fr : Nat × Nat} (h : IsS107 w0 W g f0 f1 f2) (hb2 : W.heap[a]? = some (.cells cs t fr)) (ht : t ≠ 107) : g ≠ a := by
 obtain ⟨A0, c0, hb, hg, hr0⟩ := h
 rintro rfl
 rw [hb] at hb2
 injection hb2 with hb2
 injection hb2 with _ ht2
 exact ht ht2.symm
theorem IsS107.far {w0 W : World} {g : Nat} {f0 : List Int} {f1 : Int} {f2 : Int} {p : Addr} (h : IsS107 w0 W g f0 f1 f2) (hne : g ≠ p.block) (u : Value) : IsS107 w0 (W.setCell p u) g f0 f1 f2 := by
 obtain ⟨A0, c0, hb, hg, hr0⟩ := h
 exact ⟨A0, c0, blk_far hb hne u, hg, hr0⟩
theorem cellS107_0 {W : World} {g : Nat} {A0 : Option Addr} {c0 : Nat} {f0 : List Int} {f1 : Int} {f2 : Int} (h : W.heap[g]? = some (.cells #[.slice A0 f0.length c0, .int .i64 f1, .int .i64 f2] 107 (0, 0))) : W.cell? ⟨g, 0, none⟩ = some (.slice A0 f0.length c0) := (blk_cell h 0).trans rfl
theorem cellS107_1 {W : World} {g : Nat} {A0 : Option Addr} {c0 : Nat} {f0 : List Int} {f1 : Int} {f2 : Int} (h : W.heap[g]? = some (.cells #[.slice A0 f0.length c0, .int .i64 f1, .int .i64 f2] 107 (0, 0))) : W.cell? ⟨g, 1, none⟩ = some (.int .i64 f1) := (blk_cell h 1).trans rfl
theorem IsS107.set_1 {w0 W : World} {g : Nat} {f0 : List Int} {f1 : Int} {f2 : Int} (h : IsS107 w0 W g f0 f1 f2) (x : Int) : IsS107 w0 (W.setCell ⟨g, 1, none⟩ (.int .i64 x)) g f0 x f2 := by
 obtain ⟨A0, c0, hb, hg, hr0⟩ := h
 exact ⟨A0, c0, by simpa using blk_set hb 1 (.int .i64 x), hg, hr0⟩
theorem cellS107_2 {W : World} {g : Nat} {A0 : Option Addr} {c0 : Nat} {f0 : List Int} {f1 : Int} {f2 : Int} (h : W.heap[g]? = some (.cells #[.slice A0 f0.length c0, .int .i64 f1, .int .i64 f2] 107 (0, 0))) : W.cell? ⟨g, 2, none⟩ = some (.int .i64 f2) := (blk_cell h 2).trans rfl
theorem IsS107.set_2 {w0 W : World} {g : Nat} {f0 : List Int} {f1 : Int} {f2 : Int} (h : IsS107 w0 W g f0 f1 f2) (x : Int) : IsS107 w0 (W.setCell ⟨g, 2, none⟩ (.int .i64 x)) g f0 f1 x := by
 obtain ⟨A0, c0, hb, hg, hr0⟩ := h
 exact ⟨A0, c0, by simpa using blk_set hb 2 (.int .i64 x), hg, hr0⟩
theorem IsS107.new (w0 W : World) (A0 : Option Addr) (c0 : Nat) (f0 : List Int) (f1 : Int) (f2 : Int) (hB : Below w0.heap.size w0 W) (hr0 : Kd.C (Kd.int .u8) w0 A0 f0.length f0) : IsS107 w0 (W.alloc (.cells #[.slice A0 f0.length c0, .int .i64 f1, .int .i64 f2] 107)) W.heap.size f0 f1 f2 := ⟨A0, c0, by simpa using heap_alloc_new W _, hB.size, hr0⟩

def spec_l1New.l0 : Nat → List Int → Int → Int → Option (List Int × Int × Int)
 | 0, _, _, _ => none
 | k + 1, x0, x3, x4 => if x4 < (x0.length : Int) then (if x4 < 4000 then (if 0 ≤ x4 then (spec_l1New.l0 k x0 (Go.bits .and .i64 (wrap64 ((wrap64 ((wrap64 (x3 * 131)) + (wrap64 (rd x0 x4)))) + 7)) 1073741823) (wrap64 (x4 + 1))) else (none)) else (some (x0, 0, x3))) else (some (x0, 0, x3))
def spec_l1New.f (k : Nat) (l0 : List Int) : Option (List Int × Int × Int) := spec_l1New.l0 k l0 (wrap64 (26583 + (l0.length : Int))) 0
theorem spec_l1New.mono_l : ∀ k, (∀ y0 y1 y2, LeO (spec_l1New.l0 k y0 y1 y2) (spec_l1New.l0 (k + 1) y0 y1 y2))
 | 0 => fun _ _ _ r h => by simp [spec_l1New.l0] at h
 | k + 1 => by
  have ih0 := spec_l1New.mono_l k
  ·intro y0 y1 y2
   unfold spec_l1New.l0
   repeat' first
   | (with_reducible exact ih0 _ _ _)
   | (with_reducible exact LeO.refl _)
   | (with_reducible exact LeO.none _)
   | (with_reducible refine LeO.ite ?_ ?_)
   | (with_reducible refine LeO.bind ?_ (fun _ => ?_))
   | exact ih0 _ _ _
   | exact LeO.none _
   | refine LeO.ite ?_ ?_
   | refine LeO.bind ?_ (fun _ => ?_)
theorem spec_l1New.mono : ∀ a0 k, LeO (spec_l1New.f k a0) (spec_l1New.f (k + 1) a0) := by
 intro a0 k
 have ih0 := spec_l1New.mono_l k
 unfold spec_l1New.f
 repeat' first
   | (with_reducible exact ih0 _ _ _)
   | (with_reducible exact LeO.refl _)
   | (with_reducible exact LeO.none _)
   | (with_reducible refine LeO.ite ?_ ?_)
   | (with_reducible refine LeO.bind ?_ (fun _ => ?_))
   | exact ih0 _ _ _
   | exact LeO.none _
   | refine LeO.ite ?_ ?_
   | refine LeO.bind ?_ (fun _ => ?_)
set_option maxHeartbeats 8000000 in
set_option maxRecDepth 100000 in
theorem spec_l1New.calls (k : Nat) (A0 : Option Addr) (c0 : Nat) (l0 : List Int) (r1 : List Int) (r2 : Int) (r3 : Int) (w0 w : World) (hB : Below w0.heap.size w0 w) (hr0 : Kd.C (Kd.int .u8) w0 A0 l0.length l0) (hc0 : l0.length ≤ c0) (h : spec_l1New.f k l0 = some (r1, r2, r3)) :
  Calls Try.prog 73 #[.slice A0 l0.length c0] w fun e w' => ∃ g_ : Nat, e = .returned (.pointer (some ⟨g_, 0, none⟩)) ∧ IsS107 w0 w' g_ r1 r2 r3 ∧ Below w0.heap.size w0 w' ∧ Below w.heap.size w w' := by
 have hu107 := Try.underlying107
 have HR0 := Aside0.mk hr0
 have HC0 := Aside0.mk hc0
 clear hr0 hc0
 have HBW := Aside0.mk (Below.refl w.heap.size w)
 have HW0 := Aside0.mk hB.size
 have HB := Aside0.mk hB
 clear hB
 have H : (spec_l1New.l0 k l0 (wrap64 (26583 + (l0.length : Int))) 0) = some (r1, r2, r3) := h
 clear h
 have H' := Aside0.mk H
 clear H
 go_enter Try.func73, Try.ntmps73
 go_wp2
 go_loopg [3, 4] k (fun kq v3 v4 w' => ∃ (x3_1 : Int) (x4_1 : Int), v3 = .int .i64 x3_1 ∧ v4 = .int .i64 x4_1 ∧ Aside0 (spec_l1New.l0 kq l0 x3_1 x4_1 = some (r1, r2, r3)) ∧ Aside0 (kq ≤ k) ∧ Aside0 (Below w0.heap.size w0 w') ∧ Aside0 (Below w.heap.size w w'))
 case atStart => exact ⟨(wrap64 (26583 + (l0.length : Int))), (0), (by first | rfl | (simp; done) | (simp [*]; done)), (by first | rfl | (simp; done) | (simp [*]; done)), H', ⟨Nat.le_refl _⟩, ⟨Z7x8⟩, ⟨Z7x4⟩⟩
 case round =>
  clear H'
  obtain ⟨x3_1, x4_1, rfl, rfl, HA, HK1, HB, HBW⟩ := hrel
  cases gk with
  | zero => exact absurd HA.out (by simp [spec_l1New.l0])
  | succ k1 =>
   have H := HA.out
   clear HA
   simp only [spec_l1New.l0] at H
   by_cases c2 : x4_1 < (l0.length : Int)
   ·rw [if_pos c2] at H
    have c2b0 : decide (x4_1 < (l0.length : Int)) = true := decide_eq_true c2;clear c2
    by_cases c3 : x4_1 < 4000
    ·rw [if_pos c3] at H
     have c3b0 : decide (x4_1 < 4000) = true := decide_eq_true c3;clear c3
     by_cases c4 : 0 ≤ x4_1
     ·rw [if_pos c4] at H
      have c4b0 : decide (0 ≤ x4_1) = true := decide_eq_true c4;clear c4;have H' := Aside0.mk H;clear H;have p194 : 0 ≤ (x4_1 : Int) := of_decide_eq_true (by first | (with_reducible assumption) | assumption);have q194 : x4_1 < (l0.length : Int) := of_decide_eq_true (by first | (with_reducible assumption) | assumption);obtain ⟨ad194, e194, hx194_0⟩ := Kd.at_int HR0.out x4_1 p194 q194
      cases e194
      replace hx194_0 := pw_cell_below HB.out hx194_0;replace p194 := eq_true p194;replace q194 := eq_true q194
      go_wp2
      go_roundg k1
      case measure => have := HK1.out; omega
      case rel => exact ⟨(Go.bits .and .i64 (wrap64 ((wrap64 ((wrap64 (x3_1 * 131)) + (wrap64 (rd l0 x4_1)))) + 7)) 1073741823), (wrap64 (x4_1 + 1)), (by first | rfl | (simp; done) | (simp [*]; done)), (by first | rfl | (simp; done) | (simp [*]; done)), H', ⟨by have := HK1.out; omega⟩, ⟨Z7x8⟩, ⟨Z7x4⟩⟩
     ·rw [if_neg c4] at H
      exact absurd H (by simp)
    ·rw [if_neg c3] at H
     have c3b0 : decide (x4_1 < 4000) = false := decide_eq_false c3;clear c3;simp only [Option.some.injEq, Prod.mk.injEq] at H;obtain ⟨rfl, rfl, rfl⟩ := H
     go_wp2_with (first | ((with_reducible refine gate_dst (N := 31) rfl ?_); refine box_event ?hg (N := 31) ?hd (cs := #[.slice A0 l0.length c0, .int .i64 0, .int .i64 x3_1]) (t := 107) ?hr ?_; (case hd => rfl); (case hg => rfl); (case hr => first | (go_simp; done) | (go_simp; rfl)); intro gb195 hg w5 hbox hb; have n0_ := Aside0.mk (below_step HBW.out hb); have n1_ := Aside0.mk (below_step Z7x8 hb); have n2_ := Aside0.mk (hbox); have n3_ := Aside0.mk ((by rw [hg]; exact (below_size Z7x4) : w.heap.size ≤ gb195)); have n4_ := Aside0.mk ((Nat.le_trans HW0.out (by rw [hg]; exact (below_size Z7x4) : w.heap.size ≤ gb195) : w0.heap.size ≤ gb195)); clear HBW; clear HB; have HBW := n0_; have HB := n1_; have BK195 := n2_; have GW195 := n3_; have GE195 := n4_; clear n0_ n1_ n2_ n3_ n4_; clear hb hbox hg))
     go_ret
     exact ⟨_, rfl, (show IsS107 w0 _ gb195 l0 0 x3_1 from ⟨_, _, by (with_reducible repeat (first | refine blk_drewN ?_ _ | refine blk_drew ?_ | refine blk_alloc ?_ _)); exact BK195.out, GE195.out, HR0.out⟩), by repeat (first | (with_reducible first | exact HB.out | apply below_alloc | apply pw_below_drewN | apply below_drew1 | refine below_set ?_ GE195.out) | exact HB.out), by repeat (first | (with_reducible first | exact HBW.out | apply below_alloc | apply pw_below_drewN | apply below_drew1 | refine below_set ?_ GW195.out) | exact HBW.out)⟩
   ·rw [if_neg c2] at H
    have c2b0 : decide (x4_1 < (l0.length : Int)) = false := decide_eq_false c2;clear c2;simp only [Option.some.injEq, Prod.mk.injEq] at H;obtain ⟨rfl, rfl, rfl⟩ := H
    go_wp2_with (first | ((with_reducible refine gate_dst (N := 31) rfl ?_); refine box_event ?hg (N := 31) ?hd (cs := #[.slice A0 l0.length c0, .int .i64 0, .int .i64 x3_1]) (t := 107) ?hr ?_; (case hd => rfl); (case hg => rfl); (case hr => first | (go_simp; done) | (go_simp; rfl)); intro gb196 hg w6 hbox hb; have n0_ := Aside0.mk (below_step HBW.out hb); have n1_ := Aside0.mk (below_step Z7x8 hb); have n2_ := Aside0.mk (hbox); have n3_ := Aside0.mk ((by rw [hg]; exact (below_size Z7x4) : w.heap.size ≤ gb196)); have n4_ := Aside0.mk ((Nat.le_trans HW0.out (by rw [hg]; exact (below_size Z7x4) : w.heap.size ≤ gb196) : w0.heap.size ≤ gb196)); clear HBW; clear HB; have HBW := n0_; have HB := n1_; have BK196 := n2_; have GW196 := n3_; have GE196 := n4_; clear n0_ n1_ n2_ n3_ n4_; clear hb hbox hg))
    go_ret
    exact ⟨_, rfl, (show IsS107 w0 _ gb196 l0 0 x3_1 from ⟨_, _, by (with_reducible repeat (first | refine blk_drewN ?_ _ | refine blk_drew ?_ | refine blk_alloc ?_ _)); exact BK196.out, GE196.out, HR0.out⟩), by repeat (first | (with_reducible first | exact HB.out | apply below_alloc | apply pw_below_drewN | apply below_drew1 | refine below_set ?_ GE196.out) | exact HB.out), by repeat (first | (with_reducible first | exact HBW.out | apply below_alloc | apply pw_below_drewN | apply below_drew1 | refine below_set ?_ GW196.out) | exact HBW.out)⟩

def spec_l1Byte.f (s0_0 : List Int) (s0_1 : Int) (s0_2 : Int) : Option (Int × Int × Int) := if s0_1 < (s0_0.length : Int) then (if 0 ≤ s0_1 then (some (Go.bits .and .i64 (wrap64 ((Go.bits .and .i64 (Go.bits .xor .i64 ((wrap64 ((wrap64 (s0_2 * 6364136223846793005)) + 1442695040888963407)) / 8589934592) ((wrap64 ((wrap64 (s0_2 * 6364136223846793005)) + 1442695040888963407)) / 35184372088832)) 255) + (wrap64 (rd s0_0 s0_1)))) 255, wrap64 (s0_1 + 1), wrap64 ((wrap64 (s0_2 * 6364136223846793005)) + 1442695040888963407))) else (none)) else (some (Go.bits .and .i64 (Go.bits .xor .i64 ((wrap64 ((wrap64 (s0_2 * 6364136223846793005)) + 1442695040888963407)) / 8589934592) ((wrap64 ((wrap64 (s0_2 * 6364136223846793005)) + 1442695040888963407)) / 35184372088832)) 255, s0_1, wrap64 ((wrap64 (s0_2 * 6364136223846793005)) + 1442695040888963407)))
set_option maxHeartbeats 8000000 in
set_option maxRecDepth 100000 in
theorem spec_l1Byte.calls (g : Nat) (s0_0 : List Int) (s0_1 : Int) (s0_2 : Int) (r1 : Int) (r2 : Int) (r3 : Int) (w0 w : World) (hI : IsS107 w0 w g s0_0 s0_1 s0_2) (hB : Below w0.heap.size w0 w) (h : spec_l1Byte.f s0_0 s0_1 s0_2 = some (r1, r2, r3)) :
  Calls Try.prog 108 #[.pointer (some ⟨g, 0, none⟩)] w fun e w' => e = .returned (.int .i64 r1) ∧ IsS107 w0 w' g s0_0 r2 r3 ∧ Below w0.heap.size w0 w' ∧ KeepBut w w' g none := by
 have HI0 := Aside0.mk hI
 have HK := Aside0.mk (KeepBut.refl w g none)
 have HL := Aside0.mk hB.size
 clear hI
 have HW0 := Aside0.mk hB.size
 have HB := Aside0.mk hB
 clear hB
 have H : (if s0_1 < (s0_0.length : Int) then (if 0 ≤ s0_1 then (some (Go.bits .and .i64 (wrap64 ((Go.bits .and .i64 (Go.bits .xor .i64 ((wrap64 ((wrap64 (s0_2 * 6364136223846793005)) + 1442695040888963407)) / 8589934592) ((wrap64 ((wrap64 (s0_2 * 6364136223846793005)) + 1442695040888963407)) / 35184372088832)) 255) + (wrap64 (rd s0_0 s0_1)))) 255, wrap64 (s0_1 + 1), wrap64 ((wrap64 (s0_2 * 6364136223846793005)) + 1442695040888963407))) else (none)) else (some (Go.bits .and .i64 (Go.bits .xor .i64 ((wrap64 ((wrap64 (s0_2 * 6364136223846793005)) + 1442695040888963407)) / 8589934592) ((wrap64 ((wrap64 (s0_2 * 6364136223846793005)) + 1442695040888963407)) / 35184372088832)) 255, s0_1, wrap64 ((wrap64 (s0_2 * 6364136223846793005)) + 1442695040888963407)))) = some (r1, r2, r3) := h
 clear h
 by_cases c2 : s0_1 < (s0_0.length : Int)
 ·rw [if_pos c2] at H
  have c2b0 : decide (s0_1 < (s0_0.length : Int)) = true := decide_eq_true c2
  clear c2
  by_cases c3 : 0 ≤ s0_1
  ·rw [if_pos c3] at H
   have c3b0 : decide (0 ≤ s0_1) = true := decide_eq_true c3
   clear c3
   simp only [Option.some.injEq, Prod.mk.injEq] at H
   obtain ⟨rfl, rfl, rfl⟩ := H
   obtain ⟨ASz4_0, cSz4_0, HGz4, hgz4, HSz4_0⟩ := HI0.out
   have hcz4_0 := cellS107_0 HGz4
   have hcz4_1 := cellS107_1 HGz4
   have hcz4_2 := cellS107_2 HGz4
   have hfz4_1 := blk_frozen HGz4 1
   have hfz4_2 := blk_frozen HGz4 2
   clear HGz4 hgz4
   have p197 : 0 ≤ (s0_1 : Int) := of_decide_eq_true (by first | (with_reducible assumption) | assumption)
   have q197 : s0_1 < (s0_0.length : Int) := of_decide_eq_true (by first | (with_reducible assumption) | assumption)
   obtain ⟨ad197, e197, hx197_0⟩ := Kd.at_int HSz4_0 s0_1 p197 q197
   cases e197
   have hn197_0 : ad197.block ≠ g := Nat.ne_of_lt (Nat.lt_of_lt_of_le (by have := World.block_lt_of_cell? _ _ hx197_0; first | rwa [add_block] at this | exact this) (IsS107.ge HI0.out))
   replace hx197_0 := pw_cell_below HB.out hx197_0
   replace hx197_0 := (cell_far (p := ⟨g, 2, none⟩) (by first | (rw [add_block]; exact hn197_0) | (show (Addr.add _ _).block ≠ _; rw [add_block]; exact hn197_0) | exact hn197_0) (.int .i64 (wrap64 ((wrap64 (s0_2 * 6364136223846793005)) + 1442695040888963407)))).trans hx197_0
   (try have hy197_0 := fun (n_ : Nat) => (show (((w.drewN n_).setCell ⟨g, 2, none⟩ (.int .i64 (wrap64 ((wrap64 (s0_2 * 6364136223846793005)) + 1442695040888963407))))).cell? _ = some _ from hx197_0))
   clear hn197_0
   replace p197 := eq_true p197
   replace q197 := eq_true q197
   go_enter Try.func108, Try.ntmps108
   go_wp2
   repeat (go_quiet (fail); try go_wp2)
   go_ret
   exact ⟨Z7x9, Z7x0, Z7x1, Z7x2⟩
  ·rw [if_neg c3] at H
   exact absurd H (by simp)
 ·rw [if_neg c2] at H
  have c2b0 : decide (s0_1 < (s0_0.length : Int)) = false := decide_eq_false c2
  clear c2
  simp only [Option.some.injEq, Prod.mk.injEq] at H
  obtain ⟨rfl, rfl, rfl⟩ := H
  obtain ⟨ASz5_0, cSz5_0, HGz5, hgz5, HSz5_0⟩ := HI0.out
  have hcz5_0 := cellS107_0 HGz5
  have hcz5_1 := cellS107_1 HGz5
  have hcz5_2 := cellS107_2 HGz5
  have hfz5_1 := blk_frozen HGz5 1
  have hfz5_2 := blk_frozen HGz5 2
  clear HGz5 hgz5
  go_enter Try.func108, Try.ntmps108
  go_wp2
  repeat (go_quiet (fail); try go_wp2)
  go_ret
  exact ⟨Z7x9, Z7x0, Z7x1, Z7x2⟩

def spec_l1Below.f (s0_0 : List Int) (s0_1 : Int) (s0_2 : Int) (a1 : Int) : Option (Int × Int × Int) := if a1 ≤ 0 then (some (0, s0_1, s0_2)) else (if a1 ≤ 256 then ((spec_l1Byte.f s0_0 s0_1 s0_2).bind fun bt198 => (if a1 = 0 then (none) else (some (Int.tmod bt198.1 a1, bt198.2.1, bt198.2.2)))) else ((spec_l1Byte.f s0_0 s0_1 s0_2).bind fun bt201 => ((spec_l1Byte.f s0_0 bt201.2.1 bt201.2.2).bind fun bt204 => ((spec_l1Byte.f s0_0 bt204.2.1 bt204.2.2).bind fun bt207 => ((spec_l1Byte.f s0_0 bt207.2.1 bt207.2.2).bind fun bt210 => (if a1 = 0 then (none) else (some (Int.tmod (wrap64 ((wrap64 ((wrap64 ((wrap64 (bt201.1 * 16777216)) + (wrap64 (bt204.1 * 65536)))) + (wrap64 (bt207.1 * 256)))) + bt210.1)) a1, bt210.2.1, bt210.2.2))))))))
set_option maxHeartbeats 8000000 in
set_option maxRecDepth 100000 in
theorem spec_l1Below.calls (g : Nat) (s0_0 : List Int) (s0_1 : Int) (s0_2 : Int) (a1 : Int) (r1 : Int) (r2 : Int) (r3 : Int) (w0 w : World) (hI : IsS107 w0 w g s0_0 s0_1 s0_2) (hB : Below w0.heap.size w0 w) (h : spec_l1Below.f s0_0 s0_1 s0_2 a1 = some (r1, r2, r3)) :
  Calls Try.prog 98 #[.pointer (some ⟨g, 0, none⟩), .int .i64 a1] w fun e w' => e = .returned (.int .i64 r1) ∧ IsS107 w0 w' g s0_0 r2 r3 ∧ Below w0.heap.size w0 w' ∧ KeepBut w w' g none := by
 have HI0 := Aside0.mk hI
 have HK := Aside0.mk (KeepBut.refl w g none)
 have HL := Aside0.mk hB.size
 clear hI
 have HW0 := Aside0.mk hB.size
 have HB := Aside0.mk hB
 clear hB
 have H : (if a1 ≤ 0 then (some (0, s0_1, s0_2)) else (if a1 ≤ 256 then ((spec_l1Byte.f s0_0 s0_1 s0_2).bind fun bt198 => (if a1 = 0 then (none) else (some (Int.tmod bt198.1 a1, bt198.2.1, bt198.2.2)))) else ((spec_l1Byte.f s0_0 s0_1 s0_2).bind fun bt201 => ((spec_l1Byte.f s0_0 bt201.2.1 bt201.2.2).bind fun bt204 => ((spec_l1Byte.f s0_0 bt204.2.1 bt204.2.2).bind fun bt207 => ((spec_l1Byte.f s0_0 bt207.2.1 bt207.2.2).bind fun bt210 => (if a1 = 0 then (none) else (some (Int.tmod (wrap64 ((wrap64 ((wrap64 ((wrap64 (bt201.1 * 16777216)) + (wrap64 (bt204.1 * 65536)))) + (wrap64 (bt207.1 * 256)))) + bt210.1)) a1, bt210.2.1, bt210.2.2))))))))) = some (r1, r2, r3) := h
 clear h
 by_cases c3 : a1 ≤ 0
 ·rw [if_pos c3] at H
  have c3b0 : decide (a1 ≤ 0) = true := decide_eq_true c3
  clear c3
  simp only [Option.some.injEq, Prod.mk.injEq] at H
  obtain ⟨rfl, rfl, rfl⟩ := H
  go_enter Try.func98, Try.ntmps98
  go_wp2
  go_ret
  exact ⟨Z7x9, Z7x0, Z7x1, Z7x2⟩
 ·rw [if_neg c3] at H
  have c3b0 : decide (a1 ≤ 0) = false := decide_eq_false c3
  clear c3
  by_cases c4 : a1 ≤ 256
  ·rw [if_pos c4] at H
   have c4b0 : decide (a1 ≤ 256) = true := decide_eq_true c4
   clear c4
   replace H := Option.bind_eq_some_iff.mp H
   obtain ⟨⟨t198, t199, t200⟩, A50, H⟩ := H
   replace H : (if a1 = 0 then (none) else (some (Int.tmod t198 a1, t199, t200))) = some (r1, r2, r3) := H
   have A5 := Aside0.mk A50
   clear A50
   by_cases c6 : a1 = 0
   ·rw [if_pos c6] at H
    exact absurd H (by simp)
   ·rw [if_neg c6] at H
    have c6b0 : (a1 == 0) = false := beq_eq_false_iff_ne.mpr c6;have c6b1 : (a1 != 0) = true := bne_iff_ne.mpr c6;simp only [Option.some.injEq, Prod.mk.injEq] at H;obtain ⟨rfl, rfl, rfl⟩ := H
    go_enter Try.func98, Try.ntmps98
    go_wp2_with (first | ((with_reducible refine gate_callee (f := 108) rfl ?_); refine goesL_ (some 14) rfl rfl Try.func108 (by kernel_rfl) rfl #[.pointer (some ⟨g, 0, none⟩)] rfl Z7x7 ?_; (with_reducible refine (spec_l1Byte.calls g s0_0 s0_1 s0_2 t198 t199 t200 w0 _ ?side1 ?side2 A5.out).mono ?_); (case side1 => exact Z7x0); (case side2 => exact Z7x1); rintro e w7 ⟨rfl, hi, hb, hk⟩; refine ⟨_, rfl, ?_⟩; have n0_ := Aside0.mk (KeepBut.trans Z7x2 hk (.inl rfl)); have n1_ := Aside0.mk (hb); have n2_ := Aside0.mk (hi); clear HK; clear HB; clear HI0; have HK := n0_; have HB := n1_; have HI0 := n2_; clear n0_ n1_ n2_; (try clear hb); (try clear hb2); (try clear hk); (try clear hi)))
    go_ret
    exact ⟨Z7x9, Z7x0, Z7x1, Z7x2⟩
  ·rw [if_neg c4] at H
   have c4b0 : decide (a1 ≤ 256) = false := decide_eq_false c4
   clear c4
   replace H := Option.bind_eq_some_iff.mp H
   obtain ⟨⟨t201, t202, t203⟩, A80, H⟩ := H
   replace H : ((spec_l1Byte.f s0_0 t202 t203).bind fun bt204 => ((spec_l1Byte.f s0_0 bt204.2.1 bt204.2.2).bind fun bt207 => ((spec_l1Byte.f s0_0 bt207.2.1 bt207.2.2).bind fun bt210 => (if a1 = 0 then (none) else (some (Int.tmod (wrap64 ((wrap64 ((wrap64 ((wrap64 (t201 * 16777216)) + (wrap64 (bt204.1 * 65536)))) + (wrap64 (bt207.1 * 256)))) + bt210.1)) a1, bt210.2.1, bt210.2.2)))))) = some (r1, r2, r3) := H
   have A8 := Aside0.mk A80
   clear A80
   replace H := Option.bind_eq_some_iff.mp H
   obtain ⟨⟨t204, t205, t206⟩, A90, H⟩ := H
   replace H : ((spec_l1Byte.f s0_0 t205 t206).bind fun bt207 => ((spec_l1Byte.f s0_0 bt207.2.1 bt207.2.2).bind fun bt210 => (if a1 = 0 then (none) else (some (Int.tmod (wrap64 ((wrap64 ((wrap64 ((wrap64 (t201 * 16777216)) + (wrap64 (t204 * 65536)))) + (wrap64 (bt207.1 * 256)))) + bt210.1)) a1, bt210.2.1, bt210.2.2))))) = some (r1, r2, r3) := H
   have A9 := Aside0.mk A90
   clear A90
   replace H := Option.bind_eq_some_iff.mp H
   obtain ⟨⟨t207, t208, t209⟩, A100, H⟩ := H
   replace H : ((spec_l1Byte.f s0_0 t208 t209).bind fun bt210 => (if a1 = 0 then (none) else (some (Int.tmod (wrap64 ((wrap64 ((wrap64 ((wrap64 (t201 * 16777216)) + (wrap64 (t204 * 65536)))) + (wrap64 (t207 * 256)))) + bt210.1)) a1, bt210.2.1, bt210.2.2)))) = some (r1, r2, r3) := H
   have A10 := Aside0.mk A100
   clear A100
   replace H := Option.bind_eq_some_iff.mp H
   obtain ⟨⟨t210, t211, t212⟩, A110, H⟩ := H
   replace H : (if a1 = 0 then (none) else (some (Int.tmod (wrap64 ((wrap64 ((wrap64 ((wrap64 (t201 * 16777216)) + (wrap64 (t204 * 65536)))) + (wrap64 (t207 * 256)))) + t210)) a1, t211, t212))) = some (r1, r2, r3) := H
   have A11 := Aside0.mk A110
   clear A110
   by_cases c12 : a1 = 0
   ·rw [if_pos c12] at H
    exact absurd H (by simp)
   ·rw [if_neg c12] at H
    have c12b0 : (a1 == 0) = false := beq_eq_false_iff_ne.mpr c12;have c12b1 : (a1 != 0) = true := bne_iff_ne.mpr c12;simp only [Option.some.injEq, Prod.mk.injEq] at H;obtain ⟨rfl, rfl, rfl⟩ := H
    go_enter Try.func98, Try.ntmps98
    go_wp2_with (first | ((with_reducible refine gate_callee (f := 108) rfl ?_); refine goesL_ (some 18) rfl rfl Try.func108 (by kernel_rfl) rfl #[.pointer (some ⟨g, 0, none⟩)] rfl Z7x7 ?_; (with_reducible refine (spec_l1Byte.calls g s0_0 s0_1 s0_2 t201 t202 t203 w0 _ ?side1 ?side2 A8.out).mono ?_); (case side1 => exact Z7x0); (case side2 => exact Z7x1); rintro e w13 ⟨rfl, hi, hb, hk⟩; refine ⟨_, rfl, ?_⟩; have n0_ := Aside0.mk (KeepBut.trans Z7x2 hk (.inl rfl)); have n1_ := Aside0.mk (hb); have n2_ := Aside0.mk (hi); clear HK; clear HB; clear HI0; have HK := n0_; have HB := n1_; have HI0 := n2_; clear n0_ n1_ n2_; (try clear hb); (try clear hb2); (try clear hk); (try clear hi)) | ((with_reducible refine gate_callee (f := 108) rfl ?_); refine goesL_ (some 20) rfl rfl Try.func108 (by kernel_rfl) rfl #[.pointer (some ⟨g, 0, none⟩)] rfl Z7x7 ?_; (with_reducible refine (spec_l1Byte.calls g s0_0 t202 t203 t204 t205 t206 w0 _ ?side1 ?side2 A9.out).mono ?_); (case side1 => exact Z7x0); (case side2 => exact Z7x1); rintro e w14 ⟨rfl, hi, hb, hk⟩; refine ⟨_, rfl, ?_⟩; have n0_ := Aside0.mk (KeepBut.trans Z7x2 hk (.inl rfl)); have n1_ := Aside0.mk (hb); have n2_ := Aside0.mk (hi); clear HK; clear HB; clear HI0; have HK := n0_; have HB := n1_; have HI0 := n2_; clear n0_ n1_ n2_; (try clear hb); (try clear hb2); (try clear hk); (try clear hi)) | ((with_reducible refine gate_callee (f := 108) rfl ?_); refine goesL_ (some 22) rfl rfl Try.func108 (by kernel_rfl) rfl #[.pointer (some ⟨g, 0, none⟩)] rfl Z7x7 ?_; (with_reducible refine (spec_l1Byte.calls g s0_0 t205 t206 t207 t208 t209 w0 _ ?side1 ?side2 A10.out).mono ?_); (case side1 => exact Z7x0); (case side2 => exact Z7x1); rintro e w15 ⟨rfl, hi, hb, hk⟩; refine ⟨_, rfl, ?_⟩; have n0_ := Aside0.mk (KeepBut.trans Z7x2 hk (.inl rfl)); have n1_ := Aside0.mk (hb); have n2_ := Aside0.mk (hi); clear HK; clear HB; clear HI0; have HK := n0_; have HB := n1_; have HI0 := n2_; clear n0_ n1_ n2_; (try clear hb); (try clear hb2); (try clear hk); (try clear hi)) | ((with_reducible refine gate_callee (f := 108) rfl ?_); refine goesL_ (some 24) rfl rfl Try.func108 (by kernel_rfl) rfl #[.pointer (some ⟨g, 0, none⟩)] rfl Z7x7 ?_; (with_reducible refine (spec_l1Byte.calls g s0_0 t208 t209 t210 t211 t212 w0 _ ?side1 ?side2 A11.out).mono ?_); (case side1 => exact Z7x0); (case side2 => exact Z7x1); rintro e w16 ⟨rfl, hi, hb, hk⟩; refine ⟨_, rfl, ?_⟩; have n0_ := Aside0.mk (KeepBut.trans Z7x2 hk (.inl rfl)); have n1_ := Aside0.mk (hb); have n2_ := Aside0.mk (hi); clear HK; clear HB; clear HI0; have HK := n0_; have HB := n1_; have HI0 := n2_; clear n0_ n1_ n2_; (try clear hb); (try clear hb2); (try clear hk); (try clear hi)))
    go_ret
    exact ⟨Z7x9, Z7x0, Z7x1, Z7x2⟩

end Go.Proofs.Ytfknjoebomicnaa.PFnMerged
