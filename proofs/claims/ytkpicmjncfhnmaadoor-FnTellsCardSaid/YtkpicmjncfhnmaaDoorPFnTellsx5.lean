-- Written by this session's changed copy of the kit's printer (wip/patch_print.py): not the kit's own print.
import Derived.Test.YtkpicmjncfhnmaaDoorPFnTellsx0
import Derived.Test.YtkpicmjncfhnmaaDoorPFnTellsx1
import Derived.Test.YtkpicmjncfhnmaaDoorPFnTellsx2
import Derived.Test.YtkpicmjncfhnmaaDoorPFnTellsx3
import Derived.Test.YtkpicmjncfhnmaaDoorPFnTellsx4
namespace Go.Proofs.YtkpicmjncfhnmaaDoor.PFnTells
open Go.RowKit Go.Proofs.YtkpicmjncfhnmaaDoorW.PrintWords Go.Proofs.YtkpicmjncfhnmaaDoorW.PrintLast Go.Proofs.YtkpicmjncfhnmaaDoorW.PrintMore
attribute [local go_sem] max2_int min2_int max_two min_two max_three min_three max_four min_four   -- for this text's walks alone
set_option linter.unusedVariables false
set_option linter.unusedSimpArgs false

theorem impl_limited.still (a b c : Int) (w : World) : Calls Tryd.prog 78 #[.int .i64 a, .int .i64 b, .int .i64 c] w fun e w' => e = .returned (.int .i64 (mn (mx a b) c)) ∧ w' = w := by
 go_enter Tryd.func78, Tryd.ntmps78
 go_wp2
 all_goals
  go_ret
  refine ⟨congrArg (fun z => Ending.returned (.int .i64 z)) ?_, rfl⟩
  unfold mn mx
  repeat' split
  all_goals omega
theorem impl_Add.still (a b r : Int) (w : World) (h : impl_Add.f a b = some r) : Calls Tryd.prog 20 #[.int .i64 a, .int .i64 b] w fun e w' => e = .returned (.int .i64 r) ∧ w' = w := by
 unfold impl_Add.f impl_limited.f at h
 simp only [Option.bind_some, Option.some.injEq] at h
 generalize h1 : mn (mx a 0) 1000000000 = x at h
 generalize h2 : mn (mx b 0) 1000000000 = y at h
 have H := Aside0.mk h
 have c1 := fun w' => impl_limited.still a 0 1000000000 w'
 have c2 := fun w' => impl_limited.still b 0 1000000000 w'
 rw [h1] at c1
 rw [h2] at c2
 clear h h1 h2
 go_enter Tryd.func20, Tryd.ntmps20
 go_wp2_with fail
 refine (c1 _).mono ?_
 rintro e w' ⟨rfl, rfl⟩
 go_wp2_with fail
 refine (c2 _).mono ?_
 rintro e w' ⟨rfl, rfl⟩
 go_wp2
 all_goals
  go_ret
  refine ⟨congrArg (fun z => Ending.returned (.int .i64 z)) ?_, rfl⟩
  rw [← H.out]
  generalize wrap64 (x + y) = q at *
  unfold mn
  repeat' split
  all_goals omega
theorem bits_Len.still (k : Nat) (a0 r : Int) (w : World) (h : bits_Len.f k a0 = some r) : Calls Tryd.prog 81 #[.int .u64 a0] w fun e w' => e = .returned (.int .i64 r) ∧ w' = w := by
 obtain ⟨t, h1, h2⟩ := Option.bind_eq_some_iff.mp h
 obtain rfl := Option.some.inj h2
 have H := Aside0.mk h1
 clear h h1 h2
 go_enter Tryd.func81, Tryd.ntmps81
 go_wp2_with fail
 refine (bits_Len64.still k a0 t _ H.out).mono ?_
 rintro e w' ⟨rfl, rfl⟩
 go_wp2
 go_ret
 exact ⟨rfl, rfl⟩
theorem impl_BucketOf.still (k : Nat) (a0 r : Int) (w : World) (h : impl_BucketOf.f k a0 = some r) : Calls Tryd.prog 22 #[.int .i64 a0] w fun e w' => e = .returned (.int .i64 r) ∧ w' = w := by
 unfold impl_BucketOf.f at h
 by_cases c : a0 ≤ 0
 ·rw [if_pos c] at h
  obtain rfl := Option.some.inj h
  have c1 : decide (a0 ≤ 0) = true := decide_eq_true c
  clear h
  go_enter Tryd.func22, Tryd.ntmps22
  go_wp2_with fail
  go_ret
  exact ⟨rfl, rfl⟩
 ·rw [if_neg c] at h
  obtain ⟨t, h1, h2⟩ := Option.bind_eq_some_iff.mp h
  obtain rfl := Option.some.inj h2
  have c1 : decide (a0 ≤ 0) = false := decide_eq_false c
  obtain ⟨q, hq⟩ : ∃ q, mn a0 1000000 = q := ⟨_, rfl⟩
  have hq_ : (if 1000000 < a0 then 1000000 else a0) = q := by rw [← hq]; unfold mn; rfl
  rw [hq] at h1
  have H := Aside0.mk h1
  clear h h1 h2 c
  go_enter Tryd.func22, Tryd.ntmps22
  go_wp2_with fail
  refine (bits_Len.still k (IntKind.u64.wrap q) t _ H.out).mono ?_
  rintro e w' ⟨rfl, rfl⟩
  go_wp2
  go_ret
  exact ⟨by first | rfl | (simp; done) | (simp [wrap64]; done), rfl⟩
theorem impl_Mix.still (a0 r : Int) (w : World) (h : impl_Mix.f a0 = some r) : Calls Tryd.prog 25 #[.int .i64 a0] w fun e w' => e = .returned (.int .i64 r) ∧ w' = w := by
 obtain ⟨t, h1, h2⟩ := Option.bind_eq_some_iff.mp h
 have h1' : mn (mx a0 0) 1000000 = t := Option.some.inj h1
 obtain rfl := Option.some.inj h2
 have hc := impl_limited.still a0 0 1000000 w
 rw [h1'] at hc
 clear h h1 h1' h2
 go_enter Tryd.func25, Tryd.ntmps25
 go_wp2_with fail
 refine hc.mono ?_
 rintro e w' ⟨rfl, rfl⟩
 go_wp2
 go_ret
 exact ⟨by first | rfl | (simp; done) | (simp only [IntKind.wrap_i64, wrap64]; done) | (simp only [IntKind.wrap_i64, wrap64]; rfl), rfl⟩
theorem impl_RankOf.still (a0 r : Int) (w : World) (hT : Tabs w) (h : impl_RankOf.f a0 = some r) : Calls Tryd.prog 16 #[.int .i64 a0] w fun e w' => e = .returned (.int .i64 r) ∧ w' = w := by
 unfold impl_RankOf.f at h
 obtain ⟨x, hx, h⟩ := Option.bind_eq_some_iff.1 h
 have M := Aside0.mk hx
 clear hx
 by_cases h0 : x = 0
 ·rw [if_pos h0] at h
  obtain rfl := Option.some.inj h
  subst h0
  clear h hT
  go_enter Tryd.func16, Tryd.ntmps16
  go_wp2_with (go_at_call 25; refine (impl_Mix.still a0 _ _ M.out).mono ?_; rintro e w' ⟨rfl, rfl⟩)
  go_ret
  exact ⟨rfl, rfl⟩
 ·rw [if_neg h0] at h
  by_cases hr : 0 < x ∧ x < 65536
  ·rw [if_pos hr] at h
   obtain rfl := Option.some.inj h
   obtain ⟨n, rfl⟩ : ∃ n : Nat, x = (n : Int) := ⟨x.toNat, by omega⟩
   have hn : n < 65536 := by omega
   have hn0 : n ≠ 0 := by omega
   rw [Int.toNat_natCast]
   have hc := impl_RankOf.tz_call n (by omega) hn0 w hT.tz
   have hw : IntKind.u64.wrap ((n : Nat) : Int) = ((n : Nat) : Int) := by rw [IntKind.wrap_u64]; omega
   have hz : (((n : Nat) : Int) == 0) = false := by simp; omega
   have hk : Lib.ctz 64 n < 64 := (Lib.lowest_bit 64 n hn0 (by omega)).2
   clear hT h hr h0 hn hn0
   generalize Lib.ctz 64 n = c at *
   have HC := Aside0.mk hc
   clear hc
   go_enter Tryd.func16, Tryd.ntmps16
   go_wp2_with fail
   refine (impl_Mix.still a0 _ _ M.out).mono ?_
   rintro e w' ⟨rfl, rfl⟩
   go_wp2_with fail
   refine HC.out.mono ?_
   rintro e w2 ⟨rfl, rfl⟩
   go_wp2
   go_ret
   exact ⟨rfl, rfl⟩
  ·rw [if_neg hr] at h
   cases h
theorem impl_Insert.ok (k : Nat) {w : World} {x y z : Sl} {h r : List Int} {R : List (List Int)} (c s lo hi : Int) (t : Bool) (u : Rd w x y z h r R) (he : impl_SketchOk.f k c s lo hi h r R = some t) :
  Calls Tryd.prog 39 #[.agg #[.int .i64 c, .int .i64 s, .int .i64 lo, .int .i64 hi, .slice x.A x.n x.c, .slice y.A y.n y.c, .slice z.A z.n z.c]] w fun e w' => e = .returned (.bool t) ∧ Below w.heap.size w w' := by
 rw [u.e4, u.e5, u.e6]
 exact (impl_SketchOk.calls k c s lo hi _ _ h _ _ r _ _ R t w u.C4 u.l4 u.C5 u.l5 u.C6 u.l6 he).mono fun e w' ⟨h1, h2⟩ => ⟨h1, by first | exact h2 | exact h2.below⟩
theorem impl_Insert.cp (k : Nat) {w : World} {x y z : Sl} {h r : List Int} {R : List (List Int)} (c s lo hi : Int) (u : Rd w x y z h r R) (he : impl_copySketch.f k c s lo hi h r R = some (c, s, lo, hi, h, r, R)) :
  Calls Tryd.prog 92 #[.agg #[.int .i64 c, .int .i64 s, .int .i64 lo, .int .i64 hi, .slice x.A x.n x.c, .slice y.A y.n y.c, .slice z.A z.n z.c]] w fun e w' => ∃ (x' y' z' : Sl) (a b : Nat), e = .returned (.agg #[.int .i64 c, .int .i64 s, .int .i64 lo, .int .i64 hi, .slice x'.A x'.n x'.c, .slice y'.A y'.n y'.c, .slice z'.A z'.n z'.c]) ∧ Sk w' a b x' y' z' h r R ∧ Made w w' a b ∧ Below w.heap.size w w' := by
 rw [u.e4, u.e5, u.e6]
 refine (impl_copySketch.calls k c s lo hi _ _ h _ _ r _ _ R c s lo hi h r R w u.C4 u.l4 u.C5 u.l5 u.C6 u.l6 he).mono ?_
 rintro e w' ⟨v4, v5, v6, rfl, h4, h5, h6, hb⟩
 obtain ⟨x', y', z', rfl, rfl, rfl, hs⟩ := Sk.of h4 h5 h6 (fun _ hk => hk) (fun _ hk => hk)
 exact ⟨x', y', z', _, _, rfl, hs, ⟨Nat.le_refl _, hb.size, Nat.le_refl _⟩, hb⟩
set_option maxHeartbeats 16000000 in
set_option maxRecDepth 100000 in
theorem impl_Insert.no1 (k : Nat) (c s lo hi v : Int) {A4 A5 A6 : Option Addr} {c4 c5 c6 : Nat} {h r : List Int} {R : List (List Int)} (w : World) (hT : Aside0 (Tabs w)) (u : Rd w ⟨A4, h.length, c4⟩ ⟨A5, r.length, c5⟩ ⟨A6, R.length, c6⟩ h r R) (K3 : Aside0 (impl_copySketch.f k c s lo hi h r R = some (c, s, lo, hi, h, r, R)))
  (K1 : Aside0 (impl_SketchOk.f k c s lo hi h r R = some false)) :
  Calls Tryd.prog 62 #[.agg #[.int .i64 c, .int .i64 s, .int .i64 lo, .int .i64 hi, .slice A4 h.length c4, .slice A5 r.length c5, .slice A6 R.length c6], .int .i64 v] w (SkOut w c s lo hi h r R false) := by
 have U := Aside0.mk u
 clear u
 go_enter Tryd.func62, Tryd.ntmps62
 have HB_1 := Aside0.mk ((below_alloc (Below.refl _ w) (.cells #[.int .i64 c, .int .i64 s, .int .i64 lo, .int .i64 hi, .slice A4 h.length c4, .slice A5 r.length c5, .slice A6 R.length c6] 43)))
 have Z_2 := Aside0.mk (show (w.alloc (.cells #[.int .i64 c, .int .i64 s, .int .i64 lo, .int .i64 hi, .slice A4 h.length c4, .slice A5 r.length c5, .slice A6 R.length c6] 43)).heap.size = w.heap.size + 1 by simp)
 have bxa_3 := Aside0.mk (Bx.new w 43 #[.int .i64 c, .int .i64 s, .int .i64 lo, .int .i64 hi, .slice A4 h.length c4, .slice A5 r.length c5, .slice A6 R.length c6])
 have bxa_4 := Aside0.mk (bxa_3.out.below (below_alloc (Below.refl _ (w.alloc (.cells #[.int .i64 c, .int .i64 s, .int .i64 lo, .int .i64 hi, .slice A4 h.length c4, .slice A5 r.length c5, .slice A6 R.length c6] 43))) (.cells #[.int .i64 0, .int .i64 0, .int .i64 0, .int .i64 0, .slice none 0 0, .slice none 0 0, .slice none 0 0] 43)))
 have HB_5 := Aside0.mk (below_step HB_1.out (below_alloc (Below.refl _ (w.alloc (.cells #[.int .i64 c, .int .i64 s, .int .i64 lo, .int .i64 hi, .slice A4 h.length c4, .slice A5 r.length c5, .slice A6 R.length c6] 43))) (.cells #[.int .i64 0, .int .i64 0, .int .i64 0, .int .i64 0, .slice none 0 0, .slice none 0 0, .slice none 0 0] 43)))
 have Z_6 := Aside0.mk (show ((w.alloc (.cells #[.int .i64 c, .int .i64 s, .int .i64 lo, .int .i64 hi, .slice A4 h.length c4, .slice A5 r.length c5, .slice A6 R.length c6] 43)).alloc (.cells #[.int .i64 0, .int .i64 0, .int .i64 0, .int .i64 0, .slice none 0 0, .slice none 0 0, .slice none 0 0] 43)).heap.size = w.heap.size + 1 + 1 by simp)
 have bxo_7 := Aside0.mk ((show Bx ((w.alloc (.cells #[.int .i64 c, .int .i64 s, .int .i64 lo, .int .i64 hi, .slice A4 h.length c4, .slice A5 r.length c5, .slice A6 R.length c6] 43)).alloc (.cells #[.int .i64 0, .int .i64 0, .int .i64 0, .int .i64 0, .slice none 0 0, .slice none 0 0, .slice none 0 0] 43)) (w.heap.size + 1) 43 #[.int .i64 0, .int .i64 0, .int .i64 0, .int .i64 0, .slice none 0 0, .slice none 0 0, .slice none 0 0] from (show (w.alloc (.cells #[.int .i64 c, .int .i64 s, .int .i64 lo, .int .i64 hi, .slice A4 h.length c4, .slice A5 r.length c5, .slice A6 R.length c6] 43)).heap.size = w.heap.size + 1 by simp) ▸ Bx.new (w.alloc (.cells #[.int .i64 c, .int .i64 s, .int .i64 lo, .int .i64 hi, .slice A4 h.length c4, .slice A5 r.length c5, .slice A6 R.length c6] 43)) 43 #[.int .i64 0, .int .i64 0, .int .i64 0, .int .i64 0, .slice none 0 0, .slice none 0 0, .slice none 0 0]))
 clear bxa_3 HB_1
 go_wp2_with fail
 refine (impl_Insert.cp k c s lo hi (U.out.below HB_5.out) K3.out).mono ?_
 rintro e w1 ⟨x1, y1, z1, a1, b1, rfl, hs, hm, hb⟩
 have S_8 := Aside0.mk hs
 clear hs
 have Z_9 := Aside0.mk hm
 clear hm
 unfold Made at Z_9
 have bxa_10 := Aside0.mk (bxa_4.out.below hb)
 have bxo_11 := Aside0.mk (bxo_7.out.below hb)
 have HB_12 := Aside0.mk (below_step HB_5.out hb)
 have Z_13 := Aside0.mk (hb.size)
 clear bxa_4 bxo_7 HB_5 hb
 obtain ⟨bxa13c0, bxa13c1, bxa13c2, bxa13c3, bxa13c4, bxa13c5, bxa13c6⟩ := bxa_10.out.cellsA
 go_wp2_with fail
 clear bxa13c0 bxa13c1 bxa13c2 bxa13c3 bxa13c4 bxa13c5 bxa13c6
 have bxa_15 := Aside0.mk (bxa_10.out.below (below_alloc (Below.refl _ w1) (.cells #[.int .i64 c, .int .i64 s, .int .i64 lo, .int .i64 hi, .slice x1.A x1.n x1.c, .slice y1.A y1.n y1.c, .slice z1.A z1.n z1.c] 43)))
 have bxo_16 := Aside0.mk (bxo_11.out.below (below_alloc (Below.refl _ w1) (.cells #[.int .i64 c, .int .i64 s, .int .i64 lo, .int .i64 hi, .slice x1.A x1.n x1.c, .slice y1.A y1.n y1.c, .slice z1.A z1.n z1.c] 43)))
 have S_17 := Aside0.mk (S_8.out.below (below_alloc (Below.refl _ w1) (.cells #[.int .i64 c, .int .i64 s, .int .i64 lo, .int .i64 hi, .slice x1.A x1.n x1.c, .slice y1.A y1.n y1.c, .slice z1.A z1.n z1.c] 43)))
 have HB_18 := Aside0.mk (below_step HB_12.out (below_alloc (Below.refl _ w1) (.cells #[.int .i64 c, .int .i64 s, .int .i64 lo, .int .i64 hi, .slice x1.A x1.n x1.c, .slice y1.A y1.n y1.c, .slice z1.A z1.n z1.c] 43)))
 have Z_19 := Aside0.mk (show (w1.alloc (.cells #[.int .i64 c, .int .i64 s, .int .i64 lo, .int .i64 hi, .slice x1.A x1.n x1.c, .slice y1.A y1.n y1.c, .slice z1.A z1.n z1.c] 43)).heap.size = w1.heap.size + 1 by simp)
 have bx6_20 := Aside0.mk (Bx.new w1 43 #[.int .i64 c, .int .i64 s, .int .i64 lo, .int .i64 hi, .slice x1.A x1.n x1.c, .slice y1.A y1.n y1.c, .slice z1.A z1.n z1.c])
 clear bxa_10 bxo_11 S_8 HB_12
 refine (impl_Insert.ok k c s lo hi false (U.out.below HB_18.out) K1.out).mono ?_
 rintro e w2 ⟨rfl, hb⟩
 have bxa_21 := Aside0.mk (bxa_15.out.below hb)
 have bxo_22 := Aside0.mk (bxo_16.out.below hb)
 have S_23 := Aside0.mk (S_17.out.below hb)
 have bx6_24 := Aside0.mk (bx6_20.out.below hb)
 have HB_25 := Aside0.mk (below_step HB_18.out hb)
 have Z_26 := Aside0.mk (hb.size)
 clear bxa_15 bxo_16 S_17 bx6_20 HB_18 hb
 obtain ⟨bxo26c0, bxo26c1, bxo26c2, bxo26c3, bxo26c4, bxo26c5, bxo26c6⟩ := bxo_22.out.cells
 obtain ⟨bx627c0, bx627c1, bx627c2, bx627c3, bx627c4, bx627c5, bx627c6⟩ := bx6_24.out.cells
 have fz29 := bxo_22.out.fz
 go_wp2
 refine bodyPost_ret (results_ct rfl _ _ (w.heap.size + 1) 43 #[.int .i64 c, .int .i64 s, .int .i64 lo, .int .i64 hi, .slice x1.A x1.n x1.c, .slice y1.A y1.n y1.c, .slice z1.A z1.n z1.c] (0, 0) _ rfl (bxo_22.out.fill _ _ _ _ _ _ _).1 Tryd.underlying43 rfl (by kernel_rfl)) rfl ?_
 have k1 := (bxo_22.out.fill (.int .i64 c) (.int .i64 s) (.int .i64 lo) (.int .i64 hi) (.slice x1.A x1.n x1.c) (.slice y1.A y1.n y1.c) (.slice z1.A z1.n z1.c)).2
 exact ⟨x1, y1, z1, a1, b1, rfl, S_23.out.kp k1 (.inl (by have := Z_2.out; have := Z_6.out; have := Z_9.out; have := Z_13.out; have := Z_19.out; have := Z_26.out; omega)), ⟨by have := Z_2.out; have := Z_6.out; have := Z_9.out; have := Z_13.out; have := Z_19.out; have := Z_26.out; omega, by have := Z_2.out; have := Z_6.out; have := Z_9.out; have := Z_13.out; have := Z_19.out; have := Z_26.out; omega, Nat.le_trans (by have := Z_2.out; have := Z_6.out; have := Z_9.out; have := Z_13.out; have := Z_19.out; have := Z_26.out; omega) k1.kept.1⟩, below_kp HB_25.out k1 (by omega) HB_25.out.size⟩
set_option maxHeartbeats 16000000 in
set_option maxRecDepth 100000 in
theorem impl_Insert.no2 (k : Nat) (c s lo hi v : Int) {A4 A5 A6 : Option Addr} {c4 c5 c6 : Nat} {h r : List Int} {R : List (List Int)} (w : World) (hT : Aside0 (Tabs w)) (u : Rd w ⟨A4, h.length, c4⟩ ⟨A5, r.length, c5⟩ ⟨A6, R.length, c6⟩ h r R) (K3 : Aside0 (impl_copySketch.f k c s lo hi h r R = some (c, s, lo, hi, h, r, R)))
  (K1 : Aside0 (impl_SketchOk.f k c s lo hi h r R = some true)) (KW : Aside0 (impl_within.f v 0 1000000 = some false)) :
  Calls Tryd.prog 62 #[.agg #[.int .i64 c, .int .i64 s, .int .i64 lo, .int .i64 hi, .slice A4 h.length c4, .slice A5 r.length c5, .slice A6 R.length c6], .int .i64 v] w (SkOut w c s lo hi h r R false) := by
 have U := Aside0.mk u
 clear u
 go_enter Tryd.func62, Tryd.ntmps62
 have HB_1 := Aside0.mk ((below_alloc (Below.refl _ w) (.cells #[.int .i64 c, .int .i64 s, .int .i64 lo, .int .i64 hi, .slice A4 h.length c4, .slice A5 r.length c5, .slice A6 R.length c6] 43)))
 have Z_2 := Aside0.mk (show (w.alloc (.cells #[.int .i64 c, .int .i64 s, .int .i64 lo, .int .i64 hi, .slice A4 h.length c4, .slice A5 r.length c5, .slice A6 R.length c6] 43)).heap.size = w.heap.size + 1 by simp)
 have bxa_3 := Aside0.mk (Bx.new w 43 #[.int .i64 c, .int .i64 s, .int .i64 lo, .int .i64 hi, .slice A4 h.length c4, .slice A5 r.length c5, .slice A6 R.length c6])
 have bxa_4 := Aside0.mk (bxa_3.out.below (below_alloc (Below.refl _ (w.alloc (.cells #[.int .i64 c, .int .i64 s, .int .i64 lo, .int .i64 hi, .slice A4 h.length c4, .slice A5 r.length c5, .slice A6 R.length c6] 43))) (.cells #[.int .i64 0, .int .i64 0, .int .i64 0, .int .i64 0, .slice none 0 0, .slice none 0 0, .slice none 0 0] 43)))
 have HB_5 := Aside0.mk (below_step HB_1.out (below_alloc (Below.refl _ (w.alloc (.cells #[.int .i64 c, .int .i64 s, .int .i64 lo, .int .i64 hi, .slice A4 h.length c4, .slice A5 r.length c5, .slice A6 R.length c6] 43))) (.cells #[.int .i64 0, .int .i64 0, .int .i64 0, .int .i64 0, .slice none 0 0, .slice none 0 0, .slice none 0 0] 43)))
 have Z_6 := Aside0.mk (show ((w.alloc (.cells #[.int .i64 c, .int .i64 s, .int .i64 lo, .int .i64 hi, .slice A4 h.length c4, .slice A5 r.length c5, .slice A6 R.length c6] 43)).alloc (.cells #[.int .i64 0, .int .i64 0, .int .i64 0, .int .i64 0, .slice none 0 0, .slice none 0 0, .slice none 0 0] 43)).heap.size = w.heap.size + 1 + 1 by simp)
 have bxo_7 := Aside0.mk ((show Bx ((w.alloc (.cells #[.int .i64 c, .int .i64 s, .int .i64 lo, .int .i64 hi, .slice A4 h.length c4, .slice A5 r.length c5, .slice A6 R.length c6] 43)).alloc (.cells #[.int .i64 0, .int .i64 0, .int .i64 0, .int .i64 0, .slice none 0 0, .slice none 0 0, .slice none 0 0] 43)) (w.heap.size + 1) 43 #[.int .i64 0, .int .i64 0, .int .i64 0, .int .i64 0, .slice none 0 0, .slice none 0 0, .slice none 0 0] from (show (w.alloc (.cells #[.int .i64 c, .int .i64 s, .int .i64 lo, .int .i64 hi, .slice A4 h.length c4, .slice A5 r.length c5, .slice A6 R.length c6] 43)).heap.size = w.heap.size + 1 by simp) ▸ Bx.new (w.alloc (.cells #[.int .i64 c, .int .i64 s, .int .i64 lo, .int .i64 hi, .slice A4 h.length c4, .slice A5 r.length c5, .slice A6 R.length c6] 43)) 43 #[.int .i64 0, .int .i64 0, .int .i64 0, .int .i64 0, .slice none 0 0, .slice none 0 0, .slice none 0 0]))
 clear bxa_3 HB_1
 go_wp2_with fail
 refine (impl_Insert.cp k c s lo hi (U.out.below HB_5.out) K3.out).mono ?_
 rintro e w1 ⟨x1, y1, z1, a1, b1, rfl, hs, hm, hb⟩
 have S_8 := Aside0.mk hs
 clear hs
 have Z_9 := Aside0.mk hm
 clear hm
 unfold Made at Z_9
 have bxa_10 := Aside0.mk (bxa_4.out.below hb)
 have bxo_11 := Aside0.mk (bxo_7.out.below hb)
 have HB_12 := Aside0.mk (below_step HB_5.out hb)
 have Z_13 := Aside0.mk (hb.size)
 clear bxa_4 bxo_7 HB_5 hb
 obtain ⟨bxa13c0, bxa13c1, bxa13c2, bxa13c3, bxa13c4, bxa13c5, bxa13c6⟩ := bxa_10.out.cellsA
 go_wp2_with fail
 clear bxa13c0 bxa13c1 bxa13c2 bxa13c3 bxa13c4 bxa13c5 bxa13c6
 have bxa_15 := Aside0.mk (bxa_10.out.below (below_alloc (Below.refl _ w1) (.cells #[.int .i64 c, .int .i64 s, .int .i64 lo, .int .i64 hi, .slice x1.A x1.n x1.c, .slice y1.A y1.n y1.c, .slice z1.A z1.n z1.c] 43)))
 have bxo_16 := Aside0.mk (bxo_11.out.below (below_alloc (Below.refl _ w1) (.cells #[.int .i64 c, .int .i64 s, .int .i64 lo, .int .i64 hi, .slice x1.A x1.n x1.c, .slice y1.A y1.n y1.c, .slice z1.A z1.n z1.c] 43)))
 have S_17 := Aside0.mk (S_8.out.below (below_alloc (Below.refl _ w1) (.cells #[.int .i64 c, .int .i64 s, .int .i64 lo, .int .i64 hi, .slice x1.A x1.n x1.c, .slice y1.A y1.n y1.c, .slice z1.A z1.n z1.c] 43)))
 have HB_18 := Aside0.mk (below_step HB_12.out (below_alloc (Below.refl _ w1) (.cells #[.int .i64 c, .int .i64 s, .int .i64 lo, .int .i64 hi, .slice x1.A x1.n x1.c, .slice y1.A y1.n y1.c, .slice z1.A z1.n z1.c] 43)))
 have Z_19 := Aside0.mk (show (w1.alloc (.cells #[.int .i64 c, .int .i64 s, .int .i64 lo, .int .i64 hi, .slice x1.A x1.n x1.c, .slice y1.A y1.n y1.c, .slice z1.A z1.n z1.c] 43)).heap.size = w1.heap.size + 1 by simp)
 have bx6_20 := Aside0.mk (Bx.new w1 43 #[.int .i64 c, .int .i64 s, .int .i64 lo, .int .i64 hi, .slice x1.A x1.n x1.c, .slice y1.A y1.n y1.c, .slice z1.A z1.n z1.c])
 clear bxa_10 bxo_11 S_8 HB_12
 refine (impl_Insert.ok k c s lo hi true (U.out.below HB_18.out) K1.out).mono ?_
 rintro e w2 ⟨rfl, hb⟩
 have bxa_21 := Aside0.mk (bxa_15.out.below hb)
 have bxo_22 := Aside0.mk (bxo_16.out.below hb)
 have S_23 := Aside0.mk (S_17.out.below hb)
 have bx6_24 := Aside0.mk (bx6_20.out.below hb)
 have HB_25 := Aside0.mk (below_step HB_18.out hb)
 have Z_26 := Aside0.mk (hb.size)
 clear bxa_15 bxo_16 S_17 bx6_20 HB_18 hb
 go_wp2_with fail
 refine (impl_within.calls v 0 1000000 false _ KW.out).mono ?_
 rintro e w3 ⟨rfl, hd⟩
 have hb := hd.below
 clear hd
 have bxa_27 := Aside0.mk (bxa_21.out.below hb)
 have bxo_28 := Aside0.mk (bxo_22.out.below hb)
 have S_29 := Aside0.mk (S_23.out.below hb)
 have bx6_30 := Aside0.mk (bx6_24.out.below hb)
 have HB_31 := Aside0.mk (below_step HB_25.out hb)
 have Z_32 := Aside0.mk (hb.size)
 clear bxa_21 bxo_22 S_23 bx6_24 HB_25 hb
 obtain ⟨bxo32c0, bxo32c1, bxo32c2, bxo32c3, bxo32c4, bxo32c5, bxo32c6⟩ := bxo_28.out.cells
 obtain ⟨bx633c0, bx633c1, bx633c2, bx633c3, bx633c4, bx633c5, bx633c6⟩ := bx6_30.out.cells
 have fz35 := bxo_28.out.fz
 go_wp2
 refine bodyPost_ret (results_ct rfl _ _ (w.heap.size + 1) 43 #[.int .i64 c, .int .i64 s, .int .i64 lo, .int .i64 hi, .slice x1.A x1.n x1.c, .slice y1.A y1.n y1.c, .slice z1.A z1.n z1.c] (0, 0) _ rfl (bxo_28.out.fill _ _ _ _ _ _ _).1 Tryd.underlying43 rfl (by kernel_rfl)) rfl ?_
 have k1 := (bxo_28.out.fill (.int .i64 c) (.int .i64 s) (.int .i64 lo) (.int .i64 hi) (.slice x1.A x1.n x1.c) (.slice y1.A y1.n y1.c) (.slice z1.A z1.n z1.c)).2
 exact ⟨x1, y1, z1, a1, b1, rfl, S_29.out.kp k1 (.inl (by have := Z_2.out; have := Z_6.out; have := Z_9.out; have := Z_13.out; have := Z_19.out; have := Z_26.out; have := Z_32.out; omega)), ⟨by have := Z_2.out; have := Z_6.out; have := Z_9.out; have := Z_13.out; have := Z_19.out; have := Z_26.out; have := Z_32.out; omega, by have := Z_2.out; have := Z_6.out; have := Z_9.out; have := Z_13.out; have := Z_19.out; have := Z_26.out; have := Z_32.out; omega, Nat.le_trans (by have := Z_2.out; have := Z_6.out; have := Z_9.out; have := Z_13.out; have := Z_19.out; have := Z_26.out; have := Z_32.out; omega) k1.kept.1⟩, below_kp HB_31.out k1 (by omega) HB_31.out.size⟩
set_option maxHeartbeats 16000000 in
set_option maxRecDepth 100000 in
theorem impl_Insert.yes (k : Nat) (c s lo hi v : Int) {A4 A5 A6 : Option Addr} {c4 c5 c6 : Nat} {h r : List Int} {R : List (List Int)} (w : World) (hT : Aside0 (Tabs w)) (u : Rd w ⟨A4, h.length, c4⟩ ⟨A5, r.length, c5⟩ ⟨A6, R.length, c6⟩ h r R) (K3 : Aside0 (impl_copySketch.f k c s lo hi h r R = some (c, s, lo, hi, h, r, R)))
  (K1 : Aside0 (impl_SketchOk.f k c s lo hi h r R = some true)) (KW : Aside0 (impl_within.f v 0 1000000 = some true)) (L : Aside0 (h.length = 8 ∧ r.length = 8 ∧ R.length = 2)) (c1 s1 m2 m3 hb1 rk : Int) (b mm : Nat) (ad0 : Aside0 (impl_Add.f c 1 = some c1)) (ad1 : Aside0 (impl_Add.f s v = some s1))
  (HQ : Aside0 (((c == 0) = true ∧ m2 = v ∧ m3 = v) ∨ ((c == 0) = false ∧ mn lo v = m2 ∧ mx hi v = m3))) (MK : Aside0 (impl_Mix.f v = some (mm : Int))) (MB : Aside0 (mm < 65536)) (BK : Aside0 (impl_BucketOf.f k v = some (b : Int))) (HBb : Aside0 (b < 8)) (v2 : Int) (V2 : Aside0 (h.getD b 0 = v2))
  (v3 rv : Int) (V3 : Aside0 (r.getD (mm % 8) 0 = v3)) (RZ : Aside0 (mx v3 rk = rv)) (RK : Aside0 (impl_RankOf.f  v = some rk)) (WZ : List (List Int)) (LZ : Aside0 (WZ.length = 2)) (AW : Aside0 (∀ i, i < 2 → ∃ z, (R.getD i []).length = 4 ∧ impl_Add.f ((R.getD i []).getD ((i + mm) % 4) 0) 1 = some z ∧ WZ.getD i [] = (R.getD i []).set ((i + mm) % 4) z)) (ad2 : Aside0 (impl_Add.f v2 1 = some hb1)) :
  Calls Tryd.prog 62 #[.agg #[.int .i64 c, .int .i64 s, .int .i64 lo, .int .i64 hi, .slice A4 h.length c4, .slice A5 r.length c5, .slice A6 R.length c6], .int .i64 v] w (SkOut w c1 s1 m2 m3 (h.set b hb1) (r.set (mm % 8) rv) WZ true) := by
 have U := Aside0.mk u
 clear u
 go_enter Tryd.func62, Tryd.ntmps62
 have HB_1 := Aside0.mk ((below_alloc (Below.refl _ w) (.cells #[.int .i64 c, .int .i64 s, .int .i64 lo, .int .i64 hi, .slice A4 h.length c4, .slice A5 r.length c5, .slice A6 R.length c6] 43)))
 have Z_2 := Aside0.mk (show (w.alloc (.cells #[.int .i64 c, .int .i64 s, .int .i64 lo, .int .i64 hi, .slice A4 h.length c4, .slice A5 r.length c5, .slice A6 R.length c6] 43)).heap.size = w.heap.size + 1 by simp)
 have bxa_3 := Aside0.mk (Bx.new w 43 #[.int .i64 c, .int .i64 s, .int .i64 lo, .int .i64 hi, .slice A4 h.length c4, .slice A5 r.length c5, .slice A6 R.length c6])
 have bxa_4 := Aside0.mk (bxa_3.out.below (below_alloc (Below.refl _ (w.alloc (.cells #[.int .i64 c, .int .i64 s, .int .i64 lo, .int .i64 hi, .slice A4 h.length c4, .slice A5 r.length c5, .slice A6 R.length c6] 43))) (.cells #[.int .i64 0, .int .i64 0, .int .i64 0, .int .i64 0, .slice none 0 0, .slice none 0 0, .slice none 0 0] 43)))
 have HB_5 := Aside0.mk (below_step HB_1.out (below_alloc (Below.refl _ (w.alloc (.cells #[.int .i64 c, .int .i64 s, .int .i64 lo, .int .i64 hi, .slice A4 h.length c4, .slice A5 r.length c5, .slice A6 R.length c6] 43))) (.cells #[.int .i64 0, .int .i64 0, .int .i64 0, .int .i64 0, .slice none 0 0, .slice none 0 0, .slice none 0 0] 43)))
 have Z_6 := Aside0.mk (show ((w.alloc (.cells #[.int .i64 c, .int .i64 s, .int .i64 lo, .int .i64 hi, .slice A4 h.length c4, .slice A5 r.length c5, .slice A6 R.length c6] 43)).alloc (.cells #[.int .i64 0, .int .i64 0, .int .i64 0, .int .i64 0, .slice none 0 0, .slice none 0 0, .slice none 0 0] 43)).heap.size = w.heap.size + 1 + 1 by simp)
 have bxo_7 := Aside0.mk ((show Bx ((w.alloc (.cells #[.int .i64 c, .int .i64 s, .int .i64 lo, .int .i64 hi, .slice A4 h.length c4, .slice A5 r.length c5, .slice A6 R.length c6] 43)).alloc (.cells #[.int .i64 0, .int .i64 0, .int .i64 0, .int .i64 0, .slice none 0 0, .slice none 0 0, .slice none 0 0] 43)) (w.heap.size + 1) 43 #[.int .i64 0, .int .i64 0, .int .i64 0, .int .i64 0, .slice none 0 0, .slice none 0 0, .slice none 0 0] from (show (w.alloc (.cells #[.int .i64 c, .int .i64 s, .int .i64 lo, .int .i64 hi, .slice A4 h.length c4, .slice A5 r.length c5, .slice A6 R.length c6] 43)).heap.size = w.heap.size + 1 by simp) ▸ Bx.new (w.alloc (.cells #[.int .i64 c, .int .i64 s, .int .i64 lo, .int .i64 hi, .slice A4 h.length c4, .slice A5 r.length c5, .slice A6 R.length c6] 43)) 43 #[.int .i64 0, .int .i64 0, .int .i64 0, .int .i64 0, .slice none 0 0, .slice none 0 0, .slice none 0 0]))
 clear bxa_3 HB_1
 go_wp2_with fail
 refine (impl_Insert.cp k c s lo hi (U.out.below HB_5.out) K3.out).mono ?_
 rintro e w1 ⟨x1, y1, z1, a1, b1, rfl, hs, hm, hb⟩
 have S_8 := Aside0.mk hs
 clear hs
 have Z_9 := Aside0.mk hm
 clear hm
 unfold Made at Z_9
 have bxa_10 := Aside0.mk (bxa_4.out.below hb)
 have bxo_11 := Aside0.mk (bxo_7.out.below hb)
 have HB_12 := Aside0.mk (below_step HB_5.out hb)
 have Z_13 := Aside0.mk (hb.size)
 clear bxa_4 bxo_7 HB_5 hb
 obtain ⟨gx, cx, gy, cy, gz, cz, rfl, rfl, rfl⟩ := S_8.out.named (by have := L.out; omega) (by have := L.out; omega) (by have := L.out; omega)
 obtain ⟨bxa13c0, bxa13c1, bxa13c2, bxa13c3, bxa13c4, bxa13c5, bxa13c6⟩ := bxa_10.out.cellsA
 go_wp2_with fail
 clear bxa13c0 bxa13c1 bxa13c2 bxa13c3 bxa13c4 bxa13c5 bxa13c6
 have bxa_15 := Aside0.mk (bxa_10.out.below (below_alloc (Below.refl _ w1) (.cells #[.int .i64 c, .int .i64 s, .int .i64 lo, .int .i64 hi, .slice (some ⟨gx, 0, none⟩) h.length cx, .slice (some ⟨gy, 0, none⟩) r.length cy, .slice (some ⟨gz, 0, none⟩) R.length cz] 43)))
 have bxo_16 := Aside0.mk (bxo_11.out.below (below_alloc (Below.refl _ w1) (.cells #[.int .i64 c, .int .i64 s, .int .i64 lo, .int .i64 hi, .slice (some ⟨gx, 0, none⟩) h.length cx, .slice (some ⟨gy, 0, none⟩) r.length cy, .slice (some ⟨gz, 0, none⟩) R.length cz] 43)))
 have S_17 := Aside0.mk (S_8.out.below (below_alloc (Below.refl _ w1) (.cells #[.int .i64 c, .int .i64 s, .int .i64 lo, .int .i64 hi, .slice (some ⟨gx, 0, none⟩) h.length cx, .slice (some ⟨gy, 0, none⟩) r.length cy, .slice (some ⟨gz, 0, none⟩) R.length cz] 43)))
 have HB_18 := Aside0.mk (below_step HB_12.out (below_alloc (Below.refl _ w1) (.cells #[.int .i64 c, .int .i64 s, .int .i64 lo, .int .i64 hi, .slice (some ⟨gx, 0, none⟩) h.length cx, .slice (some ⟨gy, 0, none⟩) r.length cy, .slice (some ⟨gz, 0, none⟩) R.length cz] 43)))
 have Z_19 := Aside0.mk (show (w1.alloc (.cells #[.int .i64 c, .int .i64 s, .int .i64 lo, .int .i64 hi, .slice (some ⟨gx, 0, none⟩) h.length cx, .slice (some ⟨gy, 0, none⟩) r.length cy, .slice (some ⟨gz, 0, none⟩) R.length cz] 43)).heap.size = w1.heap.size + 1 by simp)
 have bx6_20 := Aside0.mk (Bx.new w1 43 #[.int .i64 c, .int .i64 s, .int .i64 lo, .int .i64 hi, .slice (some ⟨gx, 0, none⟩) h.length cx, .slice (some ⟨gy, 0, none⟩) r.length cy, .slice (some ⟨gz, 0, none⟩) R.length cz])
 clear bxa_10 bxo_11 S_8 HB_12
 refine (impl_Insert.ok k c s lo hi true (U.out.below HB_18.out) K1.out).mono ?_
 rintro e w2 ⟨rfl, hb⟩
 have bxa_21 := Aside0.mk (bxa_15.out.below hb)
 have bxo_22 := Aside0.mk (bxo_16.out.below hb)
 have S_23 := Aside0.mk (S_17.out.below hb)
 have bx6_24 := Aside0.mk (bx6_20.out.below hb)
 have HB_25 := Aside0.mk (below_step HB_18.out hb)
 have Z_26 := Aside0.mk (hb.size)
 clear bxa_15 bxo_16 S_17 bx6_20 HB_18 hb
 go_wp2_with fail
 refine (impl_within.calls v 0 1000000 true _ KW.out).mono ?_
 rintro e w3 ⟨rfl, hd⟩
 have hb := hd.below
 clear hd
 have bxa_27 := Aside0.mk (bxa_21.out.below hb)
 have bxo_28 := Aside0.mk (bxo_22.out.below hb)
 have S_29 := Aside0.mk (S_23.out.below hb)
 have bx6_30 := Aside0.mk (bx6_24.out.below hb)
 have HB_31 := Aside0.mk (below_step HB_25.out hb)
 have Z_32 := Aside0.mk (hb.size)
 clear bxa_21 bxo_22 S_23 bx6_24 HB_25 hb
 have M3 := Aside0.mk (show MInv w w3 a1 b1 w.heap.size (w.heap.size + 1) w1.heap.size ⟨some ⟨gx, 0, none⟩, h.length, cx⟩ ⟨some ⟨gy, 0, none⟩, r.length, cy⟩ ⟨some ⟨gz, 0, none⟩, R.length, cz⟩ #[.int .i64 c, .int .i64 s, .int .i64 lo, .int .i64 hi, .slice A4 h.length c4, .slice A5 r.length c5, .slice A6 R.length c6] #[.int .i64 c, .int .i64 s, .int .i64 lo, .int .i64 hi, .slice (some ⟨gx, 0, none⟩) h.length cx, .slice (some ⟨gy, 0, none⟩) r.length cy, .slice (some ⟨gz, 0, none⟩) R.length cz] h r R from ⟨S_29.out, bxa_27.out, bxo_28.out, bx6_30.out, HB_31.out, by have := Z_2.out; have := Z_6.out; have := Z_9.out; have := Z_13.out; have := Z_19.out; have := Z_26.out; have := Z_32.out; omega, by have := Z_2.out; have := Z_6.out; have := Z_9.out; have := Z_13.out; have := Z_19.out; have := Z_26.out; have := Z_32.out; omega, by have := Z_2.out; have := Z_6.out; have := Z_9.out; have := Z_13.out; have := Z_19.out; have := Z_26.out; have := Z_32.out; omega, by have := Z_2.out; have := Z_6.out; have := Z_9.out; have := Z_13.out; have := Z_19.out; have := Z_26.out; have := Z_32.out; omega⟩)
 have AB : a1 ≤ b1 := by have := Z_2.out; have := Z_6.out; have := Z_9.out; have := Z_13.out; have := Z_19.out; have := Z_26.out; have := Z_32.out; omega
 have NE : w.heap.size ≠ w1.heap.size := by have := Z_2.out; have := Z_6.out; have := Z_9.out; have := Z_13.out; have := Z_19.out; have := Z_26.out; have := Z_32.out; omega
 have NE_ : w1.heap.size ≠ w.heap.size := by have := Z_2.out; have := Z_6.out; have := Z_9.out; have := Z_13.out; have := Z_19.out; have := Z_26.out; have := Z_32.out; omega
 clear bxa_27 bxo_28 S_29 bx6_30 HB_31 Z_2 Z_6 Z_9 Z_13 Z_19 Z_26 Z_32
 obtain ⟨q1, h2, h3⟩ | ⟨q1, e2, e3⟩ := HQ.out
 all_goals
  first | (have E2 := Aside0.mk h2; have E3 := Aside0.mk h3; clear h2 h3) | (have e2_ : (if v < lo then v else lo) = m2 := e2; have e3_ : (if hi < v then v else hi) = m3 := e3)
  obtain ⟨M3X0, M3X1, M3X2, M3X3, M3X4, M3X5, M3X6⟩ := M3.out.X.cells
  obtain ⟨M3B0, M3B1, M3B2, M3B3, M3B4, M3B5, M3B6⟩ := M3.out.B.cells
  have M3F := M3.out.X.fz
  go_wp2_with fail
  clear M3X0 M3X1 M3X2 M3X3 M3X4 M3X5 M3X6 M3B0 M3B1 M3B2 M3B3 M3B4 M3B5 M3B6 M3F
  first | (have M4 := Aside0.mk (show MInv w ((((w3.setCell ⟨w1.heap.size, 2, none⟩ (.int .i64 v)).setCell ⟨w1.heap.size, 3, none⟩ (.int .i64 v)).setCell ⟨w1.heap.size, 2, none⟩ (.int .i64 v)).setCell ⟨w1.heap.size, 3, none⟩ (.int .i64 v)) a1 b1 w.heap.size (w.heap.size + 1) w1.heap.size ⟨some ⟨gx, 0, none⟩, h.length, cx⟩ ⟨some ⟨gy, 0, none⟩, r.length, cy⟩ ⟨some ⟨gz, 0, none⟩, R.length, cz⟩ #[.int .i64 c, .int .i64 s, .int .i64 lo, .int .i64 hi, .slice A4 h.length c4, .slice A5 r.length c5, .slice A6 R.length c6] #[.int .i64 c, .int .i64 s, .int .i64 m2, .int .i64 m3, .slice (some ⟨gx, 0, none⟩) h.length cx, .slice (some ⟨gy, 0, none⟩) r.length cy, .slice (some ⟨gz, 0, none⟩) R.length cz] h r R from by rw [E2.out, E3.out]; exact (((M3.out.set6 AB 2 (.int .i64 v) rfl).set6 AB 3 (.int .i64 v) rfl).set6 AB 2 (.int .i64 v) rfl).set6 AB 3 (.int .i64 v) rfl); clear E2 E3; generalize (((w3.setCell ⟨w1.heap.size, 2, none⟩ (.int .i64 v)).setCell ⟨w1.heap.size, 3, none⟩ (.int .i64 v)).setCell ⟨w1.heap.size, 2, none⟩ (.int .i64 v)).setCell ⟨w1.heap.size, 3, none⟩ (.int .i64 v) = w4 at *) | (have M4 := Aside0.mk (show MInv w ((w3.setCell ⟨w1.heap.size, 2, none⟩ (.int .i64 m2)).setCell ⟨w1.heap.size, 3, none⟩ (.int .i64 m3)) a1 b1 w.heap.size (w.heap.size + 1) w1.heap.size ⟨some ⟨gx, 0, none⟩, h.length, cx⟩ ⟨some ⟨gy, 0, none⟩, r.length, cy⟩ ⟨some ⟨gz, 0, none⟩, R.length, cz⟩ #[.int .i64 c, .int .i64 s, .int .i64 lo, .int .i64 hi, .slice A4 h.length c4, .slice A5 r.length c5, .slice A6 R.length c6] #[.int .i64 c, .int .i64 s, .int .i64 m2, .int .i64 m3, .slice (some ⟨gx, 0, none⟩) h.length cx, .slice (some ⟨gy, 0, none⟩) r.length cy, .slice (some ⟨gz, 0, none⟩) R.length cz] h r R from (M3.out.set6 AB 2 (.int .i64 m2) rfl).set6 AB 3 (.int .i64 m3) rfl); clear e2 e3 e2_ e3_; generalize (w3.setCell ⟨w1.heap.size, 2, none⟩ (.int .i64 m2)).setCell ⟨w1.heap.size, 3, none⟩ (.int .i64 m3) = w4 at *)
  clear M3 q1
  refine (impl_Add.still c 1 c1 _ ad0.out).mono ?_
  rintro e w4 ⟨rfl, rfl⟩
  obtain ⟨M4X0, M4X1, M4X2, M4X3, M4X4, M4X5, M4X6⟩ := M4.out.X.cells
  obtain ⟨M4B0, M4B1, M4B2, M4B3, M4B4, M4B5, M4B6⟩ := M4.out.B.cells
  have M4F := M4.out.X.fz
  go_wp2_with fail
  clear M4X0 M4X1 M4X2 M4X3 M4X4 M4X5 M4X6 M4B0 M4B1 M4B2 M4B3 M4B4 M4B5 M4B6 M4F
  have M6 := Aside0.mk (M4.out.set6 AB 0 (.int .i64 c1) (B6' := #[.int .i64 c1, .int .i64 s, .int .i64 m2, .int .i64 m3, .slice (some ⟨gx, 0, none⟩) h.length cx, .slice (some ⟨gy, 0, none⟩) r.length cy, .slice (some ⟨gz, 0, none⟩) R.length cz]) rfl)
  clear M4
  generalize w4.setCell ⟨w1.heap.size, 0, none⟩ (.int .i64 c1) = w6 at *
  refine (impl_Add.still s v s1 _ ad1.out).mono ?_
  rintro e w6 ⟨rfl, rfl⟩
  obtain ⟨M6X0, M6X1, M6X2, M6X3, M6X4, M6X5, M6X6⟩ := M6.out.X.cells
  have M6F := M6.out.X.fz
  go_wp2_with fail
  clear M6X0 M6X1 M6X2 M6X3 M6X4 M6X5 M6X6 M6F
  have M8 := Aside0.mk (M6.out.set6 AB 1 (.int .i64 s1) (B6' := #[.int .i64 c1, .int .i64 s1, .int .i64 m2, .int .i64 m3, .slice (some ⟨gx, 0, none⟩) h.length cx, .slice (some ⟨gy, 0, none⟩) r.length cy, .slice (some ⟨gz, 0, none⟩) R.length cz]) rfl)
  clear M6
  generalize w6.setCell ⟨w1.heap.size, 1, none⟩ (.int .i64 s1) = w8 at *
  have zb : (b : Int) < (h.length : Int) := by have := L.out; have := HBb.out; omega
  have z0 : (0 : Int) ≤ (b : Int) := by omega
  obtain ⟨p0, _⟩ := M8.out.S.hN (by have := L.out; omega)
  have pc := p0.at_v (i := b) (by have := L.out; have := HBb.out; omega) V2.out
  have pf := p0.fz b
  obtain ⟨n1, n2, _, _⟩ := M8.out.ne6 p0
  clear p0
  obtain ⟨M8X0, M8X1, M8X2, M8X3, M8X4, M8X5, M8X6⟩ := M8.out.X.cells
  have M8F := M8.out.X.fz
  refine wp_region_still_tail 11 (by kernel_rfl) (by kernel_rfl) ?_
  simp only [List.take_succ_cons, List.take_zero, List.drop_succ_cons, List.drop_zero]
  change wpStill _ _ w8.drew _ _ _
  repeat (first | still_step | still_call (impl_BucketOf.still k v b _ BK.out) | still_call (impl_Add.still v2 1 hb1 _ ad2.out))
  refine wpStill_nil ?_
  change wpList _ _ _ _ _ w8.drew
  have PUT := (M8.out.S.hN (by have := L.out; omega)).2 b hb1
  have M9 := Aside0.mk ((M8.out.kp PUT.2 PUT.1).below (below_drew (Below.refl _ _)))
  clear PUT
  go_wp2_with fail
  clear pc pf n1 n2 zb z0 M8X0 M8X1 M8X2 M8X3 M8X4 M8X5 M8X6 M8F
  refine (impl_Mix.still v (mm : Int) _ MK.out).mono ?_
  rintro e w9 ⟨rfl, hw⟩
  rw [← hw] at M9
  clear hw M8
  obtain ⟨M9X0, M9X1, M9X2, M9X3, M9X4, M9X5, M9X6⟩ := M9.out.X.cells
  have M9F := M9.out.X.fz
  have hm0 : (0 : Int) ≤ (mm : Int) := by omega
  have hm1 : (mm : Int) < 65536 := by have := MB.out; omega
  obtain ⟨j8, e8⟩ : ∃ j8 : Nat, (mm : Int) % 8 = (j8 : Int) := ⟨mm % 8, by omega⟩
  have J8 := Aside0.mk (show mm % 8 = j8 by omega)
  have V3 := V3
  rw [J8.out] at V3
  go_wp2_with fail
  try rw [e8]
  clear e8 hm0 hm1 M9X0 M9X1 M9X2 M9X3 M9X4 M9X5 M9X6 M9F
  have zb : (j8 : Int) < (r.length : Int) := by have := L.out; have := J8.out; omega
  have z0 : (0 : Int) ≤ (j8 : Int) := by omega
  have er := RZ.out
  have er_ : (if v3 < rk then rk else v3) = rv := er
  obtain ⟨p0, _⟩ := M9.out.S.rN (by have := L.out; omega)
  have pc := p0.at_v (i := j8) (by have := L.out; have := J8.out; omega) V3.out
  have pf := p0.fz j8
  obtain ⟨n1, n2, _, _⟩ := M9.out.ne6 p0
  clear p0
  obtain ⟨M9X0, M9X1, M9X2, M9X3, M9X4, M9X5, M9X6⟩ := M9.out.X.cells
  have M9F := M9.out.X.fz
  refine wp_region_still_tail 11 (by kernel_rfl) (by kernel_rfl) ?_
  simp only [List.take_succ_cons, List.take_zero, List.drop_succ_cons, List.drop_zero]
  change wpStill _ _ w9.drew _ _ _
  repeat (first | still_step | still_call (impl_RankOf.still v rk _ (Tabs.below hT.out (below_drew M9.out.L)) RK.out))
  refine wpStill_nil ?_
  change wpList _ _ _ _ _ w9.drew
  have PUT := (M9.out.S.rN (by have := L.out; omega)).2 j8 rv
  have M10 := Aside0.mk ((M9.out.kp PUT.2 PUT.1).below (below_drew (Below.refl _ _)))
  clear PUT
  obtain ⟨y0, y1, y2, y3, y4, y5, y6⟩ := M10.out.X.cells
  go_wp2_with fail
  clear pc pf n1 n2 zb z0 er er_ y0 y1 y2 y3 y4 y5 y6 M9 M9X0 M9X1 M9X2 M9X3 M9X4 M9X5 M9X6 M9F
  go_loopg [77] 2 (fun gg t1 wr => ∃ i : Nat, i ≤ 2 ∧ 2 - i ≤ gg ∧ t1 = .int .i64 i ∧ Aside0 (MInv w wr a1 b1 w.heap.size (w.heap.size + 1) w1.heap.size ⟨some ⟨gx, 0, none⟩, h.length, cx⟩ ⟨some ⟨gy, 0, none⟩, r.length, cy⟩ ⟨some ⟨gz, 0, none⟩, R.length, cz⟩ #[.int .i64 c, .int .i64 s, .int .i64 lo, .int .i64 hi, .slice A4 h.length c4, .slice A5 r.length c5, .slice A6 R.length c6] #[.int .i64 c1, .int .i64 s1, .int .i64 m2, .int .i64 m3, .slice (some ⟨gx, 0, none⟩) h.length cx, .slice (some ⟨gy, 0, none⟩) r.length cy, .slice (some ⟨gz, 0, none⟩) R.length cz] (h.set b hb1) (r.set j8 rv) (mix2 WZ R i)))
  case atStart => exact ⟨0, by omega, by omega, rfl, ⟨by rw [mix2_zero]; exact M10.out⟩⟩
  case round =>
   clear M10
   obtain ⟨i, hi, hg, rfl, M⟩ := hrel
   by_cases hlt : i < 2
   ·have hltz : (i : Int) < (R.length : Int) := by have := L.out; omega
    have hltr : (i : Int) < (R.length : Int) := by have := L.out; omega
    have h0z : (0 : Int) ≤ (i : Int) := by omega
    have hm0 : (0 : Int) ≤ (mm : Int) := by omega
    have hm1 : (mm : Int) < 65536 := by have := MB.out; omega
    have zl : WZ.length = R.length := by have := LZ.out; have := L.out; omega
    have iR : i < (mix2 WZ R i).length := by rw [mix2_length zl]; have := L.out; omega
    have eR : (mix2 WZ R i)[i] = R.getD i [] := by
     have := mix2_getD zl (show i < R.length by have := L.out; omega) ([] : List Int)
     rw [List.getD_eq_getElem?_getD, List.getElem?_eq_getElem iR] at this
     exact this
    obtain ⟨z, a0, a1_, a2_⟩ := AW.out i hlt
    obtain ⟨j, ej, ej2⟩ : ∃ j : Nat, ((i : Int) + (mm : Int)) % 4 = (j : Int) ∧ (i + mm) % 4 = j := ⟨(i + mm) % 4, by omega, rfl⟩
    rw [ej2] at a1_ a2_
    have J4 := Aside0.mk (show j < 4 by omega)
    clear ej2
    have A0_ := Aside0.mk a0
    have A1_ := Aside0.mk a1_
    have A2_ := Aside0.mk a2_
    obtain ⟨p, cp, gp, P, put⟩ := M.out.S.rowN i iR (by rw [eR]; omega)
    rw [eR] at gp P put
    have pc := P.at_v (i := j) (v := (R.getD i []).getD j 0) (by have := J4.out; omega) rfl
    have pf := P.fz j
    have PUT := put j z
    rw [← A2_.out, mix2_setD zl (by have := L.out; omega)] at PUT
    have M1 := Aside0.mk ((M.out.kp PUT.2 PUT.1).below (below_drew (Below.refl _ _)))
    have lq : (R.getD i []).length = 4 := A0_.out
    have hj1 : (j : Int) < ((R.getD i []).length : Int) := by have := J4.out; omega
    have hj0 : (0 : Int) ≤ (j : Int) := by omega
    obtain ⟨n1, n2, _, _⟩ := M.out.ne6 P
    obtain ⟨x0, x1, x2, x3, x4, x5, x6⟩ := M.out.X.cells
    clear PUT put P eR iR zl a0 a1_ a2_ lq
    generalize (R.getD i []).getD j 0 = v4 at *
    generalize R.getD i [] = rowi at *
    go_wp2_with fail
    refine (impl_Mix.still v (mm : Int) _ MK.out).mono ?_
    rintro e w9 ⟨rfl, rfl⟩
    go_wp2_with fail
    try rw [ej]
    clear ej hm0 hm1
    refine wp_region_still_tail 15 (by kernel_rfl) (by kernel_rfl) ?_
    simp only [List.take_succ_cons, List.take_zero, List.drop_succ_cons, List.drop_zero]
    change wpStill _ _ w9.drew _ _ _
    repeat (first | still_step | still_call (impl_Add.still v4 1 z _ A1_.out))
    refine wpStill_nil ?_
    change wpList _ _ _ _ _ w9.drew
    go_wp2
    go_roundg (2 - (i + 1))
    case measure => omega
    case rel => exact ⟨i + 1, by omega, by omega, by go_num, ⟨M1.out⟩⟩
   ·have : i = 2 := by omega
    subst this
    have hltz : ¬ ((2 : Nat) : Int) < (R.length : Int) := by have := L.out; omega
    rw [mix2_all (by have := LZ.out; have := L.out; omega) (by have := L.out; omega)] at M
    obtain ⟨x0, x1, x2, x3, x4, x5, x6⟩ := M.out.X.cells
    obtain ⟨y0, y1, y2, y3, y4, y5, y6⟩ := M.out.O.cells
    have fo := M.out.O.fz
    go_wp2
    refine bodyPost_ret (results_ct rfl _ _ (w.heap.size + 1) 43 #[.int .i64 c1, .int .i64 s1, .int .i64 m2, .int .i64 m3, .slice (some ⟨gx, 0, none⟩) h.length cx, .slice (some ⟨gy, 0, none⟩) r.length cy, .slice (some ⟨gz, 0, none⟩) R.length cz] (0, 0) _ rfl (M.out.O.fill _ _ _ _ _ _ _).1 Tryd.underlying43 rfl (by kernel_rfl)) rfl ?_
    have fin := M.out.out (by omega) AB c1 s1 m2 m3 true
    first | exact fin | (rw [← J8.out] at fin; exact fin)

def impl_Insert.g (k : Nat) (a0_0 : Int) (a0_1 : Int) (a0_2 : Int) (a0_3 : Int) (l0_4 : List Int) (l0_5 : List Int) (l0_6 : List (List Int)) (a1 : Int) : Option (Int × Int × Int × Int × List Int × List Int × (List (List Int)) × Bool) := (impl_Add.f a0_0 1).bind fun c1 => (impl_Add.f a0_1 a1).bind fun s1 => (impl_BucketOf.f k a1).bind fun b => (impl_Mix.f a1).bind fun m => (impl_Add.f (l0_4.getD b.toNat 0) 1).bind fun hb => (impl_RankOf.f  a1).bind fun rk => (impl_Add.f ((l0_6.getD 0 []).getD ((0 + m.toNat) % 4) 0) 1).bind fun z0 => (impl_Add.f ((l0_6.getD 1 []).getD ((1 + m.toNat) % 4) 0) 1).bind fun z1 => if l0_4.length = 8 ∧ l0_5.length = 8 ∧ l0_6.length = 2 ∧ (l0_6.getD 0 []).length = 4 ∧ (l0_6.getD 1 []).length = 4 ∧ 0 ≤ b ∧ b < 8 ∧ 0 ≤ m ∧ m < 65536 then some (c1, s1, (if a0_0 = 0 then a1 else mn a0_2 a1), (if a0_0 = 0 then a1 else mx a0_3 a1), l0_4.set b.toNat hb, l0_5.set (m.toNat % 8) (mx (l0_5.getD (m.toNat % 8) 0) rk), [(l0_6.getD 0 []).set ((0 + m.toNat) % 4) z0, (l0_6.getD 1 []).set ((1 + m.toNat) % 4) z1], true) else none
theorem impl_Insert.mono_g : ∀ a0_0 a0_1 a0_2 a0_3 l0_4 l0_5 l0_6 a1 k, LeO (impl_Insert.g k a0_0 a0_1 a0_2 a0_3 l0_4 l0_5 l0_6 a1) (impl_Insert.g (k + 1) a0_0 a0_1 a0_2 a0_3 l0_4 l0_5 l0_6 a1) := by
 intro a0_0 a0_1 a0_2 a0_3 l0_4 l0_5 l0_6 a1 k
 unfold impl_Insert.g
 repeat' first
  | (with_reducible exact impl_BucketOf.mono _ _)
  
  | (with_reducible exact LeO.refl _)
  | (with_reducible refine LeO.bind ?_ (fun _ => ?_))
def impl_Insert.f (k : Nat) (a0_0 : Int) (a0_1 : Int) (a0_2 : Int) (a0_3 : Int) (l0_4 : List Int) (l0_5 : List Int) (l0_6 : List (List Int)) (a1 : Int) : Option (Int × Int × Int × Int × List Int × List Int × (List (List Int)) × Bool) := (impl_copySketch.f k a0_0 a0_1 a0_2 a0_3 l0_4 l0_5 l0_6).bind fun t => if t.1 = a0_0 ∧ t.2.1 = a0_1 ∧ t.2.2.1 = a0_2 ∧ t.2.2.2.1 = a0_3 ∧ t.2.2.2.2.1 = l0_4 ∧ t.2.2.2.2.2.1 = l0_5 ∧ t.2.2.2.2.2.2 = l0_6 then ((impl_SketchOk.f k a0_0 a0_1 a0_2 a0_3 l0_4 l0_5 l0_6).bind fun t1 => if t1 = true then ((impl_within.f a1 0 1000000).bind fun t2 => if t2 = true then impl_Insert.g k a0_0 a0_1 a0_2 a0_3 l0_4 l0_5 l0_6 a1 else some (a0_0, a0_1, a0_2, a0_3, l0_4, l0_5, l0_6, false)) else some (a0_0, a0_1, a0_2, a0_3, l0_4, l0_5, l0_6, false)) else none
theorem impl_Insert.mono : ∀ a0_0 a0_1 a0_2 a0_3 l0_4 l0_5 l0_6 a1 k, LeO (impl_Insert.f k a0_0 a0_1 a0_2 a0_3 l0_4 l0_5 l0_6 a1) (impl_Insert.f (k + 1) a0_0 a0_1 a0_2 a0_3 l0_4 l0_5 l0_6 a1) := by
 intro a0_0 a0_1 a0_2 a0_3 l0_4 l0_5 l0_6 a1 k
 unfold impl_Insert.f
 exact LeO.bind (impl_copySketch.mono _ _ _ _ _ _ _ _) (fun _ => LeO.ite (LeO.bind (impl_SketchOk.mono _ _ _ _ _ _ _ _) (fun _ => LeO.ite (LeO.bind (LeO.refl _) (fun _ => LeO.ite (impl_Insert.mono_g _ _ _ _ _ _ _ _ _) (LeO.refl _))) (LeO.refl _))) (LeO.refl _))
theorem impl_Insert.calls (k : Nat) (a0_0 : Int) (a0_1 : Int) (a0_2 : Int) (a0_3 : Int) (A0_4 : Option Addr) (c0_4 : Nat) (l0_4 : List Int) (A0_5 : Option Addr) (c0_5 : Nat) (l0_5 : List Int) (A0_6 : Option Addr) (c0_6 : Nat) (l0_6 : List (List Int)) (a1 : Int) (r1 : Int) (r2 : Int) (r3 : Int) (r4 : Int) (r5 : List Int) (r6 : List Int) (r7 : List (List Int)) (r8 : Bool) (w : World) (hT : Tabs w) (hr0_4 : Kd.C (Kd.int .i64) w A0_4 l0_4.length l0_4) (hc0_4 : l0_4.length ≤ c0_4) (hr0_5 : Kd.C (Kd.int .i64) w A0_5 l0_5.length l0_5) (hc0_5 : l0_5.length ≤ c0_5) (hr0_6 : Kd.C (Kd.slice 3 (Kd.int .i64)) w A0_6 l0_6.length l0_6) (hc0_6 : l0_6.length ≤ c0_6) (h : impl_Insert.f k a0_0 a0_1 a0_2 a0_3 l0_4 l0_5 l0_6 a1 = some (r1, r2, r3, r4, r5, r6, r7, r8)) :
  Calls Tryd.prog 62 #[.agg #[.int .i64 a0_0, .int .i64 a0_1, .int .i64 a0_2, .int .i64 a0_3, .slice A0_4 l0_4.length c0_4, .slice A0_5 l0_5.length c0_5, .slice A0_6 l0_6.length c0_6], .int .i64 a1] w fun e w' => ∃ v4_ v5_ v6_ : Value, e = .returned (.tuple #[.agg #[.int .i64 r1, .int .i64 r2, .int .i64 r3, .int .i64 r4, v4_, v5_, v6_], .bool r8]) ∧ Kd.R (Kd.int .i64) 3 w' w.heap.size (fun k_ => some k_ ≠ (v5_ : Value).ownBlock) v4_ r5 ∧ Kd.R (Kd.int .i64) 3 w' w.heap.size (fun k_ => some k_ ≠ (v4_ : Value).ownBlock) v5_ r6 ∧ Kd.S (Kd.slice 3 (Kd.int .i64)) 39 w' w.heap.size (fun k_ => some k_ ≠ (v4_ : Value).ownBlock ∧ some k_ ≠ (v5_ : Value).ownBlock) v6_ r7 ∧ Below w.heap.size w w' := by
 have u : Rd w ⟨A0_4, l0_4.length, c0_4⟩ ⟨A0_5, l0_5.length, c0_5⟩ ⟨A0_6, l0_6.length, c0_6⟩ l0_4 l0_5 l0_6 := ⟨rfl, rfl, rfl, hc0_4, hc0_5, hc0_6, hr0_4, hr0_5, hr0_6⟩
 have key : Calls Tryd.prog 62 #[.agg #[.int .i64 a0_0, .int .i64 a0_1, .int .i64 a0_2, .int .i64 a0_3, .slice A0_4 l0_4.length c0_4, .slice A0_5 l0_5.length c0_5, .slice A0_6 l0_6.length c0_6], .int .i64 a1] w (SkOut w r1 r2 r3 r4 r5 r6 r7 r8) := by
  unfold impl_Insert.f at h
  obtain ⟨t, h3, h⟩ := Option.bind_eq_some_iff.mp h
  by_cases b4 : t.1 = a0_0 ∧ t.2.1 = a0_1 ∧ t.2.2.1 = a0_2 ∧ t.2.2.2.1 = a0_3 ∧ t.2.2.2.2.1 = l0_4 ∧ t.2.2.2.2.2.1 = l0_5 ∧ t.2.2.2.2.2.2 = l0_6
  ·rw [if_pos b4] at h
   obtain ⟨t0, t1, t2, t3, t4, t5, t6⟩ := t
   obtain ⟨d0, d1, d2, d3, d4, d5, d6⟩ := b4
   simp only at d0 d1 d2 d3 d4 d5 d6
   rw [d0, d1, d2, d3, d4, d5, d6] at h3
   clear d0 d1 d2 d3 d4 d5 d6
   obtain ⟨t1, h1, h⟩ := Option.bind_eq_some_iff.mp h
   by_cases b1 : t1 = true
   ·subst b1
    rw [if_pos rfl] at h
    obtain ⟨t2, h2, h⟩ := Option.bind_eq_some_iff.mp h
    by_cases b2 : t2 = true
    ·subst b2
     rw [if_pos rfl] at h
     unfold impl_Insert.g at h
     obtain ⟨c1, g1, h⟩ := Option.bind_eq_some_iff.mp h
     obtain ⟨s1, g2, h⟩ := Option.bind_eq_some_iff.mp h
     obtain ⟨b, g3, h⟩ := Option.bind_eq_some_iff.mp h
     obtain ⟨m, g4, h⟩ := Option.bind_eq_some_iff.mp h
     obtain ⟨hb, g5, h⟩ := Option.bind_eq_some_iff.mp h
     obtain ⟨rk, g6, h⟩ := Option.bind_eq_some_iff.mp h
     obtain ⟨z0, g7, h⟩ := Option.bind_eq_some_iff.mp h
     obtain ⟨z1, g8, h⟩ := Option.bind_eq_some_iff.mp h
     by_cases b3 : l0_4.length = 8 ∧ l0_5.length = 8 ∧ l0_6.length = 2 ∧ (l0_6.getD 0 []).length = 4 ∧ (l0_6.getD 1 []).length = 4 ∧ 0 ≤ b ∧ b < 8 ∧ 0 ≤ m ∧ m < 65536
     ·rw [if_pos b3] at h
      obtain ⟨n1, n2, n3, n4, n5, n6, n7, n8, n9⟩ := b3
      simp only [Option.some.injEq, Prod.mk.injEq] at h
      obtain ⟨rfl, rfl, rfl, rfl, rfl, rfl, rfl, rfl⟩ := h
      obtain ⟨b, rfl⟩ : ∃ n : Nat, b = (n : Int) := ⟨b.toNat, by omega⟩
      obtain ⟨m, rfl⟩ : ∃ n : Nat, m = (n : Int) := ⟨m.toNat, by omega⟩
      simp only [Int.toNat_natCast] at *
      refine impl_Insert.yes k _ _ _ _ _ w ⟨hT⟩ u ⟨h3⟩ ⟨h1⟩ ⟨h2⟩ ⟨⟨n1, n2, n3⟩⟩ _ _ _ _ _ rk b m ⟨g1⟩ ⟨g2⟩ ⟨?_⟩ ⟨g4⟩ ⟨by omega⟩ ⟨g3⟩ ⟨by omega⟩ _ ⟨rfl⟩ _ _ ⟨rfl⟩ ⟨rfl⟩ ⟨g6⟩ _ ⟨rfl⟩ ⟨?_⟩ ⟨g5⟩
      ·by_cases e : a0_0 = 0
       ·exact .inl ⟨by simp [e], by rw [if_pos e], by rw [if_pos e]⟩
       ·exact .inr ⟨by simp [e], by rw [if_neg e], by rw [if_neg e]⟩
      ·intro i hi
       match i, hi with
       | 0, _ => exact ⟨z0, n4, g7, rfl⟩
       | 1, _ => exact ⟨z1, n5, g8, rfl⟩
     ·rw [if_neg b3] at h
      cases h
    ·rw [if_neg b2] at h
     simp only [Option.some.injEq, Prod.mk.injEq] at h
     obtain ⟨rfl, rfl, rfl, rfl, rfl, rfl, rfl, rfl⟩ := h
     have : t2 = false := by simpa using b2
     subst this
     exact impl_Insert.no2 k _ _ _ _ _ w ⟨hT⟩ u ⟨h3⟩ ⟨h1⟩ ⟨h2⟩
   ·rw [if_neg b1] at h
    simp only [Option.some.injEq, Prod.mk.injEq] at h
    obtain ⟨rfl, rfl, rfl, rfl, rfl, rfl, rfl, rfl⟩ := h
    have : t1 = false := by simpa using b1
    subst this
    exact impl_Insert.no1 k _ _ _ _ _ w ⟨hT⟩ u ⟨h3⟩ ⟨h1⟩
  ·rw [if_neg b4] at h
   cases h
 refine key.mono ?_
 rintro e w' ⟨x, y, z, a, b, rfl, hs, hm, hb⟩
 obtain ⟨k1, k2, k3⟩ := hs.kd hm.1
 exact ⟨_, _, _, rfl, k1, k2, k3, hb⟩

def impl_SketchNew.f : Option (Int × Int × Int × Int × List Int × List Int × (List (List Int))) := some (0, 0, 0, 0, List.replicate 8 0, List.replicate 8 0, [List.replicate 4 0, List.replicate 4 0])
theorem impl_SketchNew.row {W : World} {base p m : Nat} {ok : Nat → Prop} (hm : m ≤ 1000) (hb : base ≤ p) (h : W.heap[p]? = some (.cells (madeCells #[.int .i64 0] m) 3 (0, 0))) (hok : ok p) :
  Kd.R (Kd.int .i64) 3 W base ok (.slice (some ⟨p, 0, none⟩) m m) (List.replicate m 0) := by
 refine Kd.R_of_own (enc := Value.int .i64) (h1 := fun _ => rfl) ⟨?_, .inr ⟨p, m, madeCells #[.int .i64 0] m, by rw [List.length_replicate], hb, h, by rw [List.length_replicate]; exact Nat.le_refl _, by simp only [maxLen]; omega, by simp [size_madeCells], ?_⟩⟩ (fun k hk => by rw [← Option.some.inj (show some p = some k from by simpa [Value.ownBlock] using hk)]; exact hok)
 ·simp [encs]
 ·rw [List.length_replicate, Nat.mul_one]
  apply List.ext_getElem
  ·simp [size_madeCells, encs]
  ·intro i h1 h2
   simp [madeCells, encs, Nat.mod_one]
theorem impl_SketchNew.mk (m : Nat) (hm : m ≤ 1000) : ∀ W : World, (Instr.makeSlice 39 (.int .i64 (m : Int)) (.int .i64 (m : Int))).run Tryd.prog W = .ok (.slice (some ⟨W.heap.size, 0, none⟩) m m) (W.alloc (.cells (madeCells #[.int .i64 0] m) 3)) := by
 intro W
 obtain ⟨i0, hi, hz⟩ := Option.map_eq_some_iff.1 info3
 simp only [Prod.mk.injEq] at hz
 have hr := run_make (P := Tryd.prog) W 39 3 i0 (.int .i64 0) Tryd.underlying39 hi hz.1 .i64 .i64 (m : Int) (m : Int) (by omega) (by omega) (by rw [hz.2.2]; omega) (by omega)
 simp only [Int.toNat_natCast] at hr
 rw [hz.2.1, Nat.mul_one] at hr
 exact hr
def impl_SketchNew.Post (w : World) (e : Ending) (w' : World) : Prop := ∃ v4_ v5_ v6_ : Value, e = .returned (.agg #[.int .i64 0, .int .i64 0, .int .i64 0, .int .i64 0, v4_, v5_, v6_]) ∧ Kd.R (Kd.int .i64) 3 w' w.heap.size (fun k_ => some k_ ≠ (v5_ : Value).ownBlock) v4_ (List.replicate 8 0) ∧ Kd.R (Kd.int .i64) 3 w' w.heap.size (fun k_ => some k_ ≠ (v4_ : Value).ownBlock) v5_ (List.replicate 8 0) ∧ Kd.S (Kd.slice 3 (Kd.int .i64)) 39 w' w.heap.size (fun k_ => some k_ ≠ (v4_ : Value).ownBlock ∧ some k_ ≠ (v5_ : Value).ownBlock) v6_ [List.replicate 4 0, List.replicate 4 0] ∧ Below w.heap.size w w'
theorem impl_SketchNew.at_ {W : World} {o : Obj} {p : Nat} (h : p = W.heap.size) : (W.alloc o).heap[p]? = some o := by
 subst h
 exact blk_new W o
theorem impl_SketchNew.fin (w W : World) (p1 p2 p3 p4 p5 : Nat)
  (h5 : W.heap[p5]? = some (.cells #[.slice (some ⟨p3, 0, none⟩) 4 4, .slice (some ⟨p4, 0, none⟩) 4 4] 39 (0, 0)))
  (h1 : W.heap[p1]? = some (.cells (madeCells #[.int .i64 0] 8) 3 (0, 0))) (h2 : W.heap[p2]? = some (.cells (madeCells #[.int .i64 0] 8) 3 (0, 0))) (h3 : W.heap[p3]? = some (.cells (madeCells #[.int .i64 0] 4) 3 (0, 0))) (h4 : W.heap[p4]? = some (.cells (madeCells #[.int .i64 0] 4) 3 (0, 0)))
  (hp : w.heap.size ≤ p1 ∧ w.heap.size ≤ p2 ∧ w.heap.size ≤ p3 ∧ w.heap.size ≤ p4 ∧ w.heap.size ≤ p5) (hn : p1 ≠ p2 ∧ p3 ≠ p4 ∧ p3 ≠ p5 ∧ p4 ≠ p5 ∧ p1 ≠ p3 ∧ p1 ≠ p4 ∧ p1 ≠ p5 ∧ p2 ≠ p3 ∧ p2 ≠ p4 ∧ p2 ≠ p5) (hb : Below w.heap.size w W) :
  impl_SketchNew.Post w (.returned (.agg #[.int .i64 0, .int .i64 0, .int .i64 0, .int .i64 0, .slice (some ⟨p1, 0, none⟩) 8 8, .slice (some ⟨p2, 0, none⟩) 8 8, .slice (some ⟨p5, 0, none⟩) 2 2])) W := by
 obtain ⟨b1, b2, b3, b4, b5⟩ := hp
 obtain ⟨n12, n34, n35, n45, n13, n14, n15, n23, n24, n25⟩ := hn
 refine ⟨_, _, _, rfl, impl_SketchNew.row (by omega) b1 h1 (by simp [Value.ownBlock]; exact n12), impl_SketchNew.row (by omega) b2 h2 (by simp [Value.ownBlock]; exact n12.symm), ?_, hb⟩
 have hM : ∀ (j : Nat) (x : List Int), [List.replicate 4 (0 : Int), List.replicate 4 0][j]? = some x → (Kd.slice 3 (Kd.int .i64)).M W w.heap.size (fun k => k = (if j = 0 then p3 else p4)) x (([Value.slice (some ⟨p3, 0, none⟩) 4 4, .slice (some ⟨p4, 0, none⟩) 4 4].drop (j * 1)).take 1) := by
  intro j x hj
  match j, hj with
  | 0, hj => simp at hj; subst hj; exact ⟨_, rfl, impl_SketchNew.row (m := 4) (by omega) b3 h3 (by simp)⟩
  | 1, hj => simp at hj; subst hj; exact ⟨_, rfl, impl_SketchNew.row (m := 4) (by omega) b4 h4 (by simp)⟩
  | j + 2, hj => simp at hj
 obtain ⟨f, hr⟩ := Kd.reps_tag (d := Kd.slice 3 (Kd.int .i64)) (w := W) (base := w.heap.size) (ok := fun k => (some k ≠ (Value.slice (some ⟨p1, 0, none⟩) 8 8).ownBlock ∧ some k ≠ (Value.slice (some ⟨p2, 0, none⟩) 8 8).ownBlock) ∧ some k ≠ (Value.slice (some ⟨p5, 0, none⟩) 2 2).ownBlock) (xs := [List.replicate 4 (0 : Int), List.replicate 4 0]) (inner := [.slice (some ⟨p3, 0, none⟩) 4 4, .slice (some ⟨p4, 0, none⟩) 4 4])
  (fun j k => k = (if j = 0 then p3 else p4) ∧ j < 2) (fun i j k hi hj => by
   obtain ⟨hi, hi2⟩ := hi
   obtain ⟨hj, hj2⟩ := hj
   rw [hi] at hj
   by_cases e1 : i = 0 <;> by_cases e2 : j = 0 <;> simp [e1, e2] at hj <;> omega) (fun j k hk => by
   obtain ⟨hk, _⟩ := hk
   subst hk
   simp only [Value.ownBlock, Option.map_some, ne_eq, Option.some.injEq]
   split <;> refine ⟨⟨?_, ?_⟩, ?_⟩ <;> omega) rfl (fun j x hj => by
   have hlt : j < 2 := (List.getElem?_eq_some_iff.1 hj).1
   exact (Kd.slice 3 (Kd.int .i64)).M_mono (fun k hk => ⟨hk, hlt⟩) (hM j x hj))
 exact ⟨f, fun k hk => by
  have : p5 = k := by simpa [Value.ownBlock] using hk
  subst this
  simp only [Value.ownBlock, Option.map_some, ne_eq, Option.some.injEq]
  exact ⟨by omega, by omega⟩, _, ⟨rfl, .inr ⟨p5, 2, _, rfl, b5, h5, Nat.le_refl _, by simp [maxLen], rfl, rfl⟩⟩, hr⟩
set_option maxHeartbeats 16000000 in
theorem impl_SketchNew.walk (w : World) : Calls Tryd.prog 87 #[] w (impl_SketchNew.Post w) := by
 have m8 : ∀ W : World, (Instr.makeSlice 39 (.int .i64 8) (.int .i64 8)).run Tryd.prog W = .ok (.slice (some ⟨W.heap.size, 0, none⟩) 8 8) (W.alloc (.cells (madeCells #[.int .i64 0] 8) 3)) := impl_SketchNew.mk 8 (by omega)
 have m4 : ∀ W : World, (Instr.makeSlice 39 (.int .i64 4) (.int .i64 4)).run Tryd.prog W = .ok (.slice (some ⟨W.heap.size, 0, none⟩) 4 4) (W.alloc (.cells (madeCells #[.int .i64 0] 4) 3)) := impl_SketchNew.mk 4 (by omega)
 have F := impl_SketchNew.fin w
 generalize madeCells #[.int .i64 0] 8 = M8 at m8 F
 generalize madeCells #[.int .i64 0] 4 = M4 at m4 F
 have F' := Aside0.mk F
 clear F
 go_enter Tryd.func87, Tryd.ntmps87
 go_wp2
 go_region
 all_goals
  go_wp2
  refine bodyPost_ret (v := .agg #[.int .i64 0, .int .i64 0, .int .i64 0, .int .i64 0, .slice (some ⟨_, 0, none⟩) 8 8, .slice (some ⟨_, 0, none⟩) 8 8, .slice (some ⟨_, 0, none⟩) 2 2]) (by simp [results, Tryd.results87, go_sem]; refine ⟨rfl, rfl, rfl⟩) rfl ?_
  exact F'.out _ _ _ _ _ _ (by repeat (first | with_reducible refine blk_drew ?_ | ((with_reducible refine impl_SketchNew.at_ ?_); (simp; done)) | with_reducible refine blk_alloc ?_ _)) (by repeat (first | with_reducible refine blk_drew ?_ | ((with_reducible refine impl_SketchNew.at_ ?_); (simp; done)) | with_reducible refine blk_alloc ?_ _)) (by repeat (first | with_reducible refine blk_drew ?_ | ((with_reducible refine impl_SketchNew.at_ ?_); (simp; done)) | with_reducible refine blk_alloc ?_ _)) (by repeat (first | with_reducible refine blk_drew ?_ | ((with_reducible refine impl_SketchNew.at_ ?_); (simp; done)) | with_reducible refine blk_alloc ?_ _)) (by repeat (first | with_reducible refine blk_drew ?_ | ((with_reducible refine impl_SketchNew.at_ ?_); (simp; done)) | with_reducible refine blk_alloc ?_ _)) (by refine ⟨?_, ?_, ?_, ?_, ?_⟩ <;> omega) (by refine ⟨?_, ?_, ?_, ?_, ?_, ?_, ?_, ?_, ?_, ?_⟩ <;> omega) (by repeat (with_reducible first | exact Below.refl _ _ | apply below_drew1 | apply below_alloc))
theorem impl_SketchNew.calls (r1 : Int) (r2 : Int) (r3 : Int) (r4 : Int) (r5 : List Int) (r6 : List Int) (r7 : List (List Int)) (w : World) (h : impl_SketchNew.f = some (r1, r2, r3, r4, r5, r6, r7)) :
  Calls Tryd.prog 87 #[] w fun e w' => ∃ v4_ v5_ v6_ : Value, e = .returned (.agg #[.int .i64 r1, .int .i64 r2, .int .i64 r3, .int .i64 r4, v4_, v5_, v6_]) ∧ Kd.R (Kd.int .i64) 3 w' w.heap.size (fun k_ => some k_ ≠ (v5_ : Value).ownBlock) v4_ r5 ∧ Kd.R (Kd.int .i64) 3 w' w.heap.size (fun k_ => some k_ ≠ (v4_ : Value).ownBlock) v5_ r6 ∧ Kd.S (Kd.slice 3 (Kd.int .i64)) 39 w' w.heap.size (fun k_ => some k_ ≠ (v4_ : Value).ownBlock ∧ some k_ ≠ (v5_ : Value).ownBlock) v6_ r7 ∧ Below w.heap.size w w' := by
 simp only [impl_SketchNew.f, Option.some.injEq, Prod.mk.injEq] at h
 obtain ⟨rfl, rfl, rfl, rfl, rfl, rfl, rfl⟩ := h
 exact impl_SketchNew.walk w

def impl_Sketched.l0 : Nat → List Int → Int → Int → Int → Int → Int → Int → List Int → List Int → List (List Int) → Option (Int × Int × Int × Int × List Int × List Int × (List (List Int)))
 | 0, _, _, _, _, _, _, _, _, _, _ => none
 | k + 1, x7, x8, x9, x216000, x216001, x216002, x216003, x216004, x216005, x216006 => if x9 < x8 then (if 0 ≤ x9 then (if x9 < (x7.length : Int) then ((impl_Insert.f k x216000 x216001 x216002 x216003 x216004 x216005 x216006 (rd x7 x9)).bind fun bt217 => (impl_Sketched.l0 k x7 x8 (wrap64 (x9 + 1)) bt217.1 bt217.2.1 bt217.2.2.1 bt217.2.2.2.1 bt217.2.2.2.2.1 bt217.2.2.2.2.2.1 bt217.2.2.2.2.2.2.1)) else (none)) else (none)) else (some (x216000, x216001, x216002, x216003, x216004, x216005, x216006))
def impl_Sketched.f (k : Nat) (l0 : List Int) : Option (Int × Int × Int × Int × List Int × List Int × (List (List Int))) := (impl_SketchNew.f).bind fun bt202 => (impl_Sketched.l0 k l0 (l0.length : Int) 0 bt202.1 bt202.2.1 bt202.2.2.1 bt202.2.2.2.1 bt202.2.2.2.2.1 bt202.2.2.2.2.2.1 bt202.2.2.2.2.2.2)
theorem impl_Sketched.mono_l : ∀ k, (∀ y0 y1 y2 y3 y4 y5 y6 y7 y8 y9, LeO (impl_Sketched.l0 k y0 y1 y2 y3 y4 y5 y6 y7 y8 y9) (impl_Sketched.l0 (k + 1) y0 y1 y2 y3 y4 y5 y6 y7 y8 y9))
 | 0 => fun _ _ _ _ _ _ _ _ _ _ r h => by simp [impl_Sketched.l0] at h
 | k + 1 => by
  have ih0 := impl_Sketched.mono_l k
  ·intro y0 y1 y2 y3 y4 y5 y6 y7 y8 y9
   unfold impl_Sketched.l0
   repeat' first
   | (with_reducible exact ih0 _ _ _ _ _ _ _ _ _ _)
   | (with_reducible exact impl_Insert.mono _ _ _ _ _ _ _ _ _)
   | (with_reducible exact LeO.refl _)
   | (with_reducible exact LeO.none _)
   | (with_reducible refine LeO.ite ?_ ?_)
   | (with_reducible refine LeO.bind ?_ (fun _ => ?_))
   | exact ih0 _ _ _ _ _ _ _ _ _ _
   | exact impl_Insert.mono _ _ _ _ _ _ _ _ _
   | exact LeO.none _
   | refine LeO.ite ?_ ?_
   | refine LeO.bind ?_ (fun _ => ?_)
theorem impl_Sketched.mono : ∀ a0 k, LeO (impl_Sketched.f k a0) (impl_Sketched.f (k + 1) a0) := by
 intro a0 k
 have ih0 := impl_Sketched.mono_l k
 unfold impl_Sketched.f
 repeat' first
   | (with_reducible exact ih0 _ _ _ _ _ _ _ _ _ _)
   | (with_reducible exact impl_Insert.mono _ _ _ _ _ _ _ _ _)
   | (with_reducible exact LeO.refl _)
   | (with_reducible exact LeO.none _)
   | (with_reducible refine LeO.ite ?_ ?_)
   | (with_reducible refine LeO.bind ?_ (fun _ => ?_))
   | exact ih0 _ _ _ _ _ _ _ _ _ _
   | exact impl_Insert.mono _ _ _ _ _ _ _ _ _
   | exact LeO.none _
   | refine LeO.ite ?_ ?_
   | refine LeO.bind ?_ (fun _ => ?_)
set_option maxHeartbeats 8000000 in
set_option maxRecDepth 100000 in
theorem impl_Sketched.calls (k : Nat) (A0 : Option Addr) (c0 : Nat) (l0 : List Int) (r1 : Int) (r2 : Int) (r3 : Int) (r4 : Int) (r5 : List Int) (r6 : List Int) (r7 : List (List Int)) (w : World) (hT : Tabs w) (hr0 : Kd.C (Kd.int .i64) w A0 l0.length l0) (hc0 : l0.length ≤ c0) (h : impl_Sketched.f k l0 = some (r1, r2, r3, r4, r5, r6, r7)) :
  Calls Tryd.prog 36 #[.slice A0 l0.length c0] w fun e w' => ∃ v4_ v5_ v6_ : Value, e = .returned (.agg #[.int .i64 r1, .int .i64 r2, .int .i64 r3, .int .i64 r4, v4_, v5_, v6_]) ∧ Kd.R (Kd.int .i64) 3 w' w.heap.size (fun k_ => some k_ ≠ (v5_ : Value).ownBlock) v4_ r5 ∧ Kd.R (Kd.int .i64) 3 w' w.heap.size (fun k_ => some k_ ≠ (v4_ : Value).ownBlock) v5_ r6 ∧ Kd.S (Kd.slice 3 (Kd.int .i64)) 39 w' w.heap.size (fun k_ => some k_ ≠ (v4_ : Value).ownBlock ∧ some k_ ≠ (v5_ : Value).ownBlock) v6_ r7 ∧ Below w.heap.size w w' := by
 have hu43 := Tryd.underlying43
 have HR0 := Aside0.mk hr0
 have HC0 := Aside0.mk hc0
 clear hr0 hc0
 have HB := Aside0.mk (Below.refl w.heap.size w)
 have HTAB := Aside0.mk hT
 clear hT
 have H : ((impl_SketchNew.f).bind fun bt202 => (impl_Sketched.l0 k l0 (l0.length : Int) 0 bt202.1 bt202.2.1 bt202.2.2.1 bt202.2.2.2.1 bt202.2.2.2.2.1 bt202.2.2.2.2.2.1 bt202.2.2.2.2.2.2)) = some (r1, r2, r3, r4, r5, r6, r7) := h
 clear h
 replace H := Option.bind_eq_some_iff.mp H
 obtain ⟨⟨t202, t203, t204, t205, t206, t209, t212⟩, A20, H⟩ := H
 replace H : (impl_Sketched.l0 k l0 (l0.length : Int) 0 t202 t203 t204 t205 t206 t209 t212) = some (r1, r2, r3, r4, r5, r6, r7) := H
 have A2 := Aside0.mk A20
 clear A20
 have H' := Aside0.mk H
 clear H
 go_enter Tryd.func36, Tryd.ntmps36
 go_wp2_with (first | ((with_reducible refine gate_dst (N := 2) rfl ?_); refine box_event ?hg (N := 2) ?hd (cs := #[.int .i64 0, .int .i64 0, .int .i64 0, .int .i64 0, .slice none 0 0, .slice none 0 0, .slice none 0 0]) (t := 43) ?hr ?_; (case hd => rfl); (case hg => rfl); (case hr => first | (go_simp; done) | (go_simp; rfl)); intro gb201 hg w3 hbox hb; have n0_ := Aside0.mk (below_step (by repeat (first | (with_reducible first | exact HB.out | apply below_alloc | apply pw_below_drewN | apply below_drew1) | exact HB.out)) hb); have n1_ := Aside0.mk (hbox); have n2_ := Aside0.mk ((by rw [hg]; exact (below_size (by repeat (first | (with_reducible first | exact HB.out | apply below_alloc | apply pw_below_drewN | apply below_drew1) | exact HB.out))) : w.heap.size ≤ gb201)); have n3_ := Aside0.mk ((by rw [hg]; exact (below_size (by repeat (first | (with_reducible first | exact HB.out | apply below_alloc | apply pw_below_drewN | apply below_drew1) | exact HB.out))) : w.heap.size ≤ gb201)); clear HB; have HB := n0_; have BK201 := n1_; have GW201 := n2_; have GE201 := n3_; clear n0_ n1_ n2_ n3_; clear hb hbox hg) | ((with_reducible refine gate_callee (f := 87) rfl ?_); refine goesL_ (some 6) rfl rfl Tryd.func87 (by kernel_rfl) rfl #[] rfl (by (try simp only [List.map_toArray, List.map_cons, List.map_nil]); first | done | rfl | (simp only [List.length_drop, List.length_take]; rfl)) ?_; (with_reducible refine (impl_SketchNew.calls  t202 t203 t204 t205 t206 t209 t212 _ A2.out).mono ?_); rintro e w4 ⟨v207, v210, v213, rfl, ho0, ho1, ho2, hb⟩; refine ⟨_, rfl, ?_⟩; have n0_ := Aside0.mk (Kd.R_lower ho0 (below_size (by repeat (first | (with_reducible first | exact HB.out | apply below_alloc | apply pw_below_drewN | apply below_drew1 | refine below_set ?_ GE201.out) | exact HB.out)))); have n1_ := Aside0.mk (Kd.R_lower ho1 (below_size (by repeat (first | (with_reducible first | exact HB.out | apply below_alloc | apply pw_below_drewN | apply below_drew1 | refine below_set ?_ GE201.out) | exact HB.out)))); have n2_ := Aside0.mk (Kd.S_lower ho2 (below_size (by repeat (first | (with_reducible first | exact HB.out | apply below_alloc | apply pw_below_drewN | apply below_drew1 | refine below_set ?_ GE201.out) | exact HB.out)))); have n3_ := Aside0.mk (blk_below (g := gb201) (o := .cells #[.int .i64 0, .int .i64 0, .int .i64 0, .int .i64 0, .slice none 0 0, .slice none 0 0, .slice none 0 0] 43 (0, 0)) (by (with_reducible repeat (first | refine blk_drewN ?_ _ | refine blk_drew ?_ | refine blk_alloc ?_ _)); exact BK201.out) hb); have n4_ := Aside0.mk (below_step (by repeat (first | (with_reducible first | exact HB.out | apply below_alloc | apply pw_below_drewN | apply below_drew1 | refine below_set ?_ GE201.out) | exact HB.out)) hb); clear BK201; clear HB; have HO208 := n0_; have HO211 := n1_; have HO214 := n2_; have BK201 := n3_; have HB := n4_; clear n0_ n1_ n2_ n3_ n4_; (try clear hb); (try clear hb2); (try clear hk); (try clear hi); (try clear ho0); (try clear ho1); (try clear ho2)) | ((with_reducible refine gate_dst (N := 3) rfl ?_); refine box_event ?hg (N := 3) ?hd (cs := #[.int .i64 0, .int .i64 0, .int .i64 0, .int .i64 0, .slice none 0 0, .slice none 0 0, .slice none 0 0]) (t := 43) ?hr ?_; (case hd => rfl); (case hg => rfl); (case hr => first | (go_simp; done) | (go_simp; rfl)); intro gb215 hg w5 hbox hb; have n0_ := Aside0.mk (Kd.R_below (by (with_reducible repeat (first | apply Kd.R_alloc | apply Kd.R_drewN | apply Kd.R_drew)); exact HO208.out) hb); have n1_ := Aside0.mk (Kd.R_below (by (with_reducible repeat (first | apply Kd.R_alloc | apply Kd.R_drewN | apply Kd.R_drew)); exact HO211.out) hb); have n2_ := Aside0.mk (Kd.S_below (by (with_reducible repeat (first | apply Kd.S_alloc | apply Kd.S_drewN | apply Kd.S_drew)); exact HO214.out) hb); have n3_ := Aside0.mk (blk_below (g := gb201) (o := .cells #[.int .i64 0, .int .i64 0, .int .i64 0, .int .i64 0, .slice none 0 0, .slice none 0 0, .slice none 0 0] 43 (0, 0)) (by (with_reducible repeat (first | refine blk_drewN ?_ _ | refine blk_drew ?_ | refine blk_alloc ?_ _)); exact BK201.out) hb); have n4_ := Aside0.mk (below_step (by repeat (first | (with_reducible first | exact HB.out | apply below_alloc | apply pw_below_drewN | apply below_drew1 | refine below_set ?_ GE201.out) | exact HB.out)) hb); have n5_ := Aside0.mk (hbox); have n6_ := Aside0.mk ((by rw [hg]; exact (below_size (by repeat (first | (with_reducible first | exact HB.out | apply below_alloc | apply pw_below_drewN | apply below_drew1 | refine below_set ?_ GE201.out) | exact HB.out))) : w.heap.size ≤ gb215)); have n7_ := Aside0.mk ((by rw [hg]; exact (below_size (by repeat (first | (with_reducible first | exact HB.out | apply below_alloc | apply pw_below_drewN | apply below_drew1 | refine below_set ?_ GE201.out) | exact HB.out))) : w.heap.size ≤ gb215)); have n8_ := Aside0.mk ((by rw [hg]; exact Nat.ne_of_lt (blk_lt (g := gb201) (o := .cells #[.int .i64 0, .int .i64 0, .int .i64 0, .int .i64 0, .slice none 0 0, .slice none 0 0, .slice none 0 0] 43 (0, 0)) (by (with_reducible repeat (first | refine blk_drewN ?_ _ | refine blk_drew ?_ | refine blk_alloc ?_ _)); exact BK201.out)) : gb201 ≠ gb215)); have n9_ := Aside0.mk ((by rw [hg]; exact Nat.ne_of_gt (blk_lt (g := gb201) (o := .cells #[.int .i64 0, .int .i64 0, .int .i64 0, .int .i64 0, .slice none 0 0, .slice none 0 0, .slice none 0 0] 43 (0, 0)) (by (with_reducible repeat (first | refine blk_drewN ?_ _ | refine blk_drew ?_ | refine blk_alloc ?_ _)); exact BK201.out)) : gb215 ≠ gb201)); clear HO208; clear HO211; clear HO214; clear BK201; clear HB; have HO208 := n0_; have HO211 := n1_; have HO214 := n2_; have BK201 := n3_; have HB := n4_; have BK215 := n5_; have GW215 := n6_; have GE215 := n7_; have NB201_215 := n8_; have NB215_201 := n9_; clear n0_ n1_ n2_ n3_ n4_ n5_ n6_ n7_ n8_ n9_; clear hb hbox hg; have hnb6 := NB215_201.out; have hnc6 := NB201_215.out; have hcz7_0 : w5.cell? ⟨gb215, 0, none⟩ = some (.int .i64 0) := (blk_cell BK215.out 0).trans rfl; have hcz7_1 : w5.cell? ⟨gb215, 1, none⟩ = some (.int .i64 0) := (blk_cell BK215.out 1).trans rfl; have hcz7_2 : w5.cell? ⟨gb215, 2, none⟩ = some (.int .i64 0) := (blk_cell BK215.out 2).trans rfl; have hcz7_3 : w5.cell? ⟨gb215, 3, none⟩ = some (.int .i64 0) := (blk_cell BK215.out 3).trans rfl; have hcz7_4 : w5.cell? ⟨gb215, 4, none⟩ = some (.slice none 0 0) := (blk_cell BK215.out 4).trans rfl; have hcz7_5 : w5.cell? ⟨gb215, 5, none⟩ = some (.slice none 0 0) := (blk_cell BK215.out 5).trans rfl; have hcz7_6 : w5.cell? ⟨gb215, 6, none⟩ = some (.slice none 0 0) := (blk_cell BK215.out 6).trans rfl; have hfz7_0 := blk_frozen BK215.out 0; have hfz7_1 := blk_frozen BK215.out 1; have hfz7_2 := blk_frozen BK215.out 2; have hfz7_3 := blk_frozen BK215.out 3; have hfz7_4 := blk_frozen BK215.out 4; have hfz7_5 := blk_frozen BK215.out 5; have hfz7_6 := blk_frozen BK215.out 6; obtain ⟨Ao8, co8, eo8⟩ := Kd.R_slice HO208.out; subst eo8; obtain ⟨Ao9, co9, eo9⟩ := Kd.R_slice HO211.out; subst eo9; obtain ⟨Ao10, co10, eo10⟩ := Kd.S_slice HO214.out; subst eo10))
 (try simp only [add_plain])
 go_loopg [9] k (fun kq v9 w' => ∃ (x9_1 : Int) (x216000_1 : Int) (x216001_1 : Int) (x216002_1 : Int) (x216003_1 : Int) (x216004_1 : List Int) (x216005_1 : List Int) (x216006_1 : List (List Int)) (u216004 : Value) (u216005 : Value) (u216006 : Value), v9 = .int .i64 x9_1 ∧ Aside0 (impl_Sketched.l0 kq l0 (l0.length : Int) x9_1 x216000_1 x216001_1 x216002_1 x216003_1 x216004_1 x216005_1 x216006_1 = some (r1, r2, r3, r4, r5, r6, r7)) ∧ Aside0 (kq ≤ k) ∧ Aside0 (Kd.R (Kd.int .i64) 3 w' w.heap.size (fun k_ => some k_ ≠ (u216005 : Value).ownBlock) u216004 x216004_1) ∧ Aside0 (Kd.R (Kd.int .i64) 3 w' w.heap.size (fun k_ => some k_ ≠ (u216004 : Value).ownBlock) u216005 x216005_1) ∧ Aside0 (Kd.S (Kd.slice 3 (Kd.int .i64)) 39 w' w.heap.size (fun k_ => some k_ ≠ (u216004 : Value).ownBlock ∧ some k_ ≠ (u216005 : Value).ownBlock) u216006 x216006_1) ∧ Aside0 (w'.heap[gb201]? = some (.cells #[.int .i64 0, .int .i64 0, .int .i64 0, .int .i64 0, (.slice none 0 0), (.slice none 0 0), (.slice none 0 0)] 43 (0, 0))) ∧ Aside0 (w'.heap[gb215]? = some (.cells #[.int .i64 x216000_1, .int .i64 x216001_1, .int .i64 x216002_1, .int .i64 x216003_1, u216004, u216005, u216006] 43 (0, 0))) ∧ Aside0 (Below w.heap.size w w'))
 case atStart => exact ⟨(0), (t202), (t203), (t204), (t205), (t206), (t209), (t212), (.slice Ao8 t206.length co8), (.slice Ao9 t209.length co9), (.slice Ao10 t212.length co10), (by first | rfl | (simp; done) | (simp [*]; done)), H', ⟨Nat.le_refl _⟩, ⟨by (with_reducible repeat (first | apply Kd.R_alloc | apply Kd.R_drewN | apply Kd.R_drew)); exact Kd.R_mono (Kd.R_far (p := ⟨gb215, 6, none⟩) (Kd.R_far (p := ⟨gb215, 5, none⟩) (Kd.R_far (p := ⟨gb215, 4, none⟩) (Kd.R_far (p := ⟨gb215, 3, none⟩) (Kd.R_far (p := ⟨gb215, 2, none⟩) (Kd.R_far (p := ⟨gb215, 1, none⟩) (Kd.R_far (p := ⟨gb215, 0, none⟩) (Kd.R_types HO208.out BK215.out (by decide)) (fun _ hk => hk.2) (.int .i64 t202)) (fun _ hk => hk.2) (.int .i64 t203)) (fun _ hk => hk.2) (.int .i64 t204)) (fun _ hk => hk.2) (.int .i64 t205)) (fun _ hk => hk.2) (.slice Ao8 t206.length co8)) (fun _ hk => hk.2) (.slice Ao9 t209.length co9)) (fun _ hk => hk.2) (.slice Ao10 t212.length co10)) (fun _ hk => hk.1)⟩, ⟨by (with_reducible repeat (first | apply Kd.R_alloc | apply Kd.R_drewN | apply Kd.R_drew)); exact Kd.R_mono (Kd.R_far (p := ⟨gb215, 6, none⟩) (Kd.R_far (p := ⟨gb215, 5, none⟩) (Kd.R_far (p := ⟨gb215, 4, none⟩) (Kd.R_far (p := ⟨gb215, 3, none⟩) (Kd.R_far (p := ⟨gb215, 2, none⟩) (Kd.R_far (p := ⟨gb215, 1, none⟩) (Kd.R_far (p := ⟨gb215, 0, none⟩) (Kd.R_types HO211.out BK215.out (by decide)) (fun _ hk => hk.2) (.int .i64 t202)) (fun _ hk => hk.2) (.int .i64 t203)) (fun _ hk => hk.2) (.int .i64 t204)) (fun _ hk => hk.2) (.int .i64 t205)) (fun _ hk => hk.2) (.slice Ao8 t206.length co8)) (fun _ hk => hk.2) (.slice Ao9 t209.length co9)) (fun _ hk => hk.2) (.slice Ao10 t212.length co10)) (fun _ hk => hk.1)⟩, ⟨by (with_reducible repeat (first | apply Kd.S_alloc | apply Kd.S_drewN | apply Kd.S_drew)); exact Kd.S_mono (Kd.S_far (p := ⟨gb215, 6, none⟩) (Kd.S_far (p := ⟨gb215, 5, none⟩) (Kd.S_far (p := ⟨gb215, 4, none⟩) (Kd.S_far (p := ⟨gb215, 3, none⟩) (Kd.S_far (p := ⟨gb215, 2, none⟩) (Kd.S_far (p := ⟨gb215, 1, none⟩) (Kd.S_far (p := ⟨gb215, 0, none⟩) (Kd.S_types HO214.out BK215.out (by decide)) (fun _ hk => hk.2) (.int .i64 t202)) (fun _ hk => hk.2) (.int .i64 t203)) (fun _ hk => hk.2) (.int .i64 t204)) (fun _ hk => hk.2) (.int .i64 t205)) (fun _ hk => hk.2) (.slice Ao8 t206.length co8)) (fun _ hk => hk.2) (.slice Ao9 t209.length co9)) (fun _ hk => hk.2) (.slice Ao10 t212.length co10)) (fun _ hk => ⟨hk.1.1, hk.1.2⟩)⟩, ⟨by (with_reducible repeat (first | refine blk_drewN ?_ _ | refine blk_drew ?_ | refine blk_alloc ?_ _)); refine blk_far ?_ NB201_215.out _; (with_reducible repeat (first | refine blk_drewN ?_ _ | refine blk_drew ?_ | refine blk_alloc ?_ _)); refine blk_far ?_ NB201_215.out _; (with_reducible repeat (first | refine blk_drewN ?_ _ | refine blk_drew ?_ | refine blk_alloc ?_ _)); refine blk_far ?_ NB201_215.out _; (with_reducible repeat (first | refine blk_drewN ?_ _ | refine blk_drew ?_ | refine blk_alloc ?_ _)); refine blk_far ?_ NB201_215.out _; (with_reducible repeat (first | refine blk_drewN ?_ _ | refine blk_drew ?_ | refine blk_alloc ?_ _)); refine blk_far ?_ NB201_215.out _; (with_reducible repeat (first | refine blk_drewN ?_ _ | refine blk_drew ?_ | refine blk_alloc ?_ _)); refine blk_far ?_ NB201_215.out _; (with_reducible repeat (first | refine blk_drewN ?_ _ | refine blk_drew ?_ | refine blk_alloc ?_ _)); refine blk_far ?_ NB201_215.out _; (with_reducible repeat (first | refine blk_drewN ?_ _ | refine blk_drew ?_ | refine blk_alloc ?_ _)); exact BK201.out⟩, ⟨by (with_reducible repeat (first | refine blk_drewN ?_ _ | refine blk_drew ?_ | refine blk_alloc ?_ _)); refine blk_put (cs := #[.int .i64 t202, .int .i64 t203, .int .i64 t204, .int .i64 t205, .slice Ao8 t206.length co8, .slice Ao9 t209.length co9, .slice none 0 0]) ?_ 6 _ rfl; (with_reducible repeat (first | refine blk_drewN ?_ _ | refine blk_drew ?_ | refine blk_alloc ?_ _)); refine blk_put (cs := #[.int .i64 t202, .int .i64 t203, .int .i64 t204, .int .i64 t205, .slice Ao8 t206.length co8, .slice none 0 0, .slice none 0 0]) ?_ 5 _ rfl; (with_reducible repeat (first | refine blk_drewN ?_ _ | refine blk_drew ?_ | refine blk_alloc ?_ _)); refine blk_put (cs := #[.int .i64 t202, .int .i64 t203, .int .i64 t204, .int .i64 t205, .slice none 0 0, .slice none 0 0, .slice none 0 0]) ?_ 4 _ rfl; (with_reducible repeat (first | refine blk_drewN ?_ _ | refine blk_drew ?_ | refine blk_alloc ?_ _)); refine blk_put (cs := #[.int .i64 t202, .int .i64 t203, .int .i64 t204, .int .i64 0, .slice none 0 0, .slice none 0 0, .slice none 0 0]) ?_ 3 _ rfl; (with_reducible repeat (first | refine blk_drewN ?_ _ | refine blk_drew ?_ | refine blk_alloc ?_ _)); refine blk_put (cs := #[.int .i64 t202, .int .i64 t203, .int .i64 0, .int .i64 0, .slice none 0 0, .slice none 0 0, .slice none 0 0]) ?_ 2 _ rfl; (with_reducible repeat (first | refine blk_drewN ?_ _ | refine blk_drew ?_ | refine blk_alloc ?_ _)); refine blk_put (cs := #[.int .i64 t202, .int .i64 0, .int .i64 0, .int .i64 0, .slice none 0 0, .slice none 0 0, .slice none 0 0]) ?_ 1 _ rfl; (with_reducible repeat (first | refine blk_drewN ?_ _ | refine blk_drew ?_ | refine blk_alloc ?_ _)); refine blk_put (cs := #[.int .i64 0, .int .i64 0, .int .i64 0, .int .i64 0, .slice none 0 0, .slice none 0 0, .slice none 0 0]) ?_ 0 _ rfl; (with_reducible repeat (first | refine blk_drewN ?_ _ | refine blk_drew ?_ | refine blk_alloc ?_ _)); exact BK215.out⟩, ⟨by repeat (first | (with_reducible first | exact HB.out | apply below_alloc | apply pw_below_drewN | apply below_drew1 | refine below_set ?_ GE201.out | refine below_set ?_ GE215.out) | exact HB.out)⟩⟩
 case round =>
  clear H'
  try clear p2
  try clear c3
  try clear c6
  try clear c8
  try clear hcz7_0
  try clear hcz7_1
  try clear hcz7_2
  try clear hcz7_3
  try clear hcz7_4
  try clear hcz7_5
  try clear hcz7_6
  try clear hfz7_0
  try clear hfz7_1
  try clear hfz7_2
  try clear hfz7_3
  try clear hfz7_4
  try clear hfz7_5
  try clear hfz7_6
  (try clear BK201)
  (try clear BK215)
  obtain ⟨x9_1, x216000_1, x216001_1, x216002_1, x216003_1, x216004_1, x216005_1, x216006_1, u216004, u216005, u216006, rfl, HA, HK1, HO_216004, HO_216005, HO_216006, BK201, BK215, HB⟩ := hrel
  cases gk with
  | zero => exact absurd HA.out (by simp [impl_Sketched.l0])
  | succ k1 =>
   have H := HA.out
   clear HA
   simp only [impl_Sketched.l0] at H
   by_cases c11 : x9_1 < (l0.length : Int)
   ·rw [if_pos c11] at H
    have c11b0 : decide (x9_1 < (l0.length : Int)) = true := decide_eq_true c11
    clear c11
    by_cases c12 : 0 ≤ x9_1
    ·rw [if_pos c12] at H
     have c12b0 : decide (0 ≤ x9_1) = true := decide_eq_true c12
     clear c12
     by_cases c13 : x9_1 < (l0.length : Int)
     ·rw [if_pos c13] at H
      have c13b0 : decide (x9_1 < (l0.length : Int)) = true := decide_eq_true c13
      clear c13
      replace H := Option.bind_eq_some_iff.mp H
      obtain ⟨⟨t217, t218, t219, t220, t221, t224, t227, t230⟩, A140, H⟩ := H
      replace H : (impl_Sketched.l0 k1 l0 (l0.length : Int) (wrap64 (x9_1 + 1)) t217 t218 t219 t220 t221 t224 t227) = some (r1, r2, r3, r4, r5, r6, r7) := H
      have A14 := Aside0.mk A140
      clear A140
      have H' := Aside0.mk H
      clear H
      have p216 : 0 ≤ (x9_1 : Int) := of_decide_eq_true (by first | (with_reducible assumption) | assumption)
      have q216 : x9_1 < (l0.length : Int) := of_decide_eq_true (by first | (with_reducible assumption) | assumption)
      obtain ⟨ad216, e216, hx216_0⟩ := Kd.at_int HR0.out x9_1 p216 q216
      (try have kqBK201_ := BK201)
      (try have kqBK215_ := BK215)
      cases e216
      (try (have BK201 := kqBK201_; clear kqBK201_))
      (try (have BK215 := kqBK215_; clear kqBK215_))
      replace hx216_0 := (HB.out.cell (World.block_lt_of_cell? w _ hx216_0)).trans hx216_0
      replace p216 := eq_true p216
      replace q216 := eq_true q216
      have hnb15 := NB215_201.out
      have hnc15 := NB201_215.out
      have hcz16_0 : wr.cell? ⟨gb215, 0, none⟩ = some (.int .i64 x216000_1) := (blk_cell BK215.out 0).trans rfl
      have hcz16_1 : wr.cell? ⟨gb215, 1, none⟩ = some (.int .i64 x216001_1) := (blk_cell BK215.out 1).trans rfl
      have hcz16_2 : wr.cell? ⟨gb215, 2, none⟩ = some (.int .i64 x216002_1) := (blk_cell BK215.out 2).trans rfl
      have hcz16_3 : wr.cell? ⟨gb215, 3, none⟩ = some (.int .i64 x216003_1) := (blk_cell BK215.out 3).trans rfl
      have hcz16_4 : wr.cell? ⟨gb215, 4, none⟩ = some (u216004) := (blk_cell BK215.out 4).trans rfl
      have hcz16_5 : wr.cell? ⟨gb215, 5, none⟩ = some (u216005) := (blk_cell BK215.out 5).trans rfl
      have hcz16_6 : wr.cell? ⟨gb215, 6, none⟩ = some (u216006) := (blk_cell BK215.out 6).trans rfl
      have hfz16_0 := blk_frozen BK215.out 0
      have hfz16_1 := blk_frozen BK215.out 1
      have hfz16_2 := blk_frozen BK215.out 2
      have hfz16_3 := blk_frozen BK215.out 3
      have hfz16_4 := blk_frozen BK215.out 4
      have hfz16_5 := blk_frozen BK215.out 5
      have hfz16_6 := blk_frozen BK215.out 6
      obtain ⟨Ao17, co17, eo17⟩ := Kd.R_slice HO_216004.out
      subst eo17
      obtain ⟨Ao18, co18, eo18⟩ := Kd.R_slice HO_216005.out
      subst eo18
      obtain ⟨Ao19, co19, eo19⟩ := Kd.S_slice HO_216006.out
      subst eo19
      go_wp2_with (first | ((with_reducible refine gate_callee (f := 62) rfl ?_); refine goesL_ (some 16) rfl rfl Tryd.func62 (by kernel_rfl) rfl #[.agg #[.int .i64 x216000_1, .int .i64 x216001_1, .int .i64 x216002_1, .int .i64 x216003_1, .slice Ao17 x216004_1.length co17, .slice Ao18 x216005_1.length co18, .slice Ao19 x216006_1.length co19], .int .i64 (rd l0 x9_1)] rfl (by (try simp only [List.map_toArray, List.map_cons, List.map_nil]); first | done | rfl | (simp only [List.length_drop, List.length_take]; rfl)) ?_; (with_reducible refine (impl_Insert.calls k1 x216000_1 x216001_1 x216002_1 x216003_1 _ _ x216004_1 _ _ x216005_1 _ _ x216006_1 (rd l0 x9_1) t217 t218 t219 t220 t221 t224 t227 t230 _ ?side1 ?side2 ?side3 ?side4 ?side5 ?side6 ?side7 A14.out).mono ?_); (case side1 => exact Tabs.below HTAB.out (by repeat (first | (with_reducible first | exact HB.out | apply below_alloc | apply pw_below_drewN | apply below_drew1 | refine below_set ?_ GE201.out | refine below_set ?_ GE215.out) | exact HB.out))); (case side2 => repeat (first | exact (Kd.R_reads' HO_216004.out).2.2 | (with_reducible refine Kd.C_alloc ?_ _) | (with_reducible refine Kd.C_drewN ?_ _) | (with_reducible refine Kd.C_drew ?_))); (case side3 => exact (Kd.R_reads' HO_216004.out).2.1); (case side4 => repeat (first | exact (Kd.R_reads' HO_216005.out).2.2 | (with_reducible refine Kd.C_alloc ?_ _) | (with_reducible refine Kd.C_drewN ?_ _) | (with_reducible refine Kd.C_drew ?_))); (case side5 => exact (Kd.R_reads' HO_216005.out).2.1); (case side6 => repeat (first | exact (Kd.S_reads' HO_216006.out).2.2 | (with_reducible refine Kd.C_alloc ?_ _) | (with_reducible refine Kd.C_drewN ?_ _) | (with_reducible refine Kd.C_drew ?_))); (case side7 => exact (Kd.S_reads' HO_216006.out).2.1); rintro e w20 ⟨v222, v225, v228, rfl, ho0, ho1, ho2, hb⟩; refine ⟨_, rfl, ?_⟩; have n0_ := Aside0.mk (Kd.R_mono (Kd.R_told (Kd.R_told (Kd.R_old (by (with_reducible repeat (first | apply Kd.R_alloc | apply Kd.R_drewN | apply Kd.R_drew)); exact HO_216004.out) hb) (Kd.R_base ho0)) (Kd.R_base ho1)) (fun _ h_ => h_.1)); have n1_ := Aside0.mk (Kd.R_mono (Kd.R_told (Kd.R_told (Kd.R_old (by (with_reducible repeat (first | apply Kd.R_alloc | apply Kd.R_drewN | apply Kd.R_drew)); exact HO_216005.out) hb) (Kd.R_base ho0)) (Kd.R_base ho1)) (fun _ h_ => h_.1)); have n2_ := Aside0.mk (Kd.S_mono (Kd.S_told (Kd.S_told (Kd.S_told (Kd.S_old (by (with_reducible repeat (first | apply Kd.S_alloc | apply Kd.S_drewN | apply Kd.S_drew)); exact HO_216006.out) hb) (Kd.R_base ho0)) (Kd.R_base ho1)) (Kd.S_base ho2)) (fun _ h_ => h_.1)); have n3_ := Aside0.mk (Kd.R_lower (Kd.R_new' (Kd.R_new' ho0 (Kd.R_lt (by (with_reducible repeat (first | apply Kd.R_alloc | apply Kd.R_drewN | apply Kd.R_drew)); exact HO_216004.out))) (Kd.R_lt (by (with_reducible repeat (first | apply Kd.R_alloc | apply Kd.R_drewN | apply Kd.R_drew)); exact HO_216005.out))) (below_size (by repeat (first | (with_reducible first | exact HB.out | apply below_alloc | apply pw_below_drewN | apply below_drew1 | refine below_set ?_ GE201.out | refine below_set ?_ GE215.out) | exact HB.out)))); have n4_ := Aside0.mk (Kd.R_lower (Kd.R_new' (Kd.R_new' ho1 (Kd.R_lt (by (with_reducible repeat (first | apply Kd.R_alloc | apply Kd.R_drewN | apply Kd.R_drew)); exact HO_216004.out))) (Kd.R_lt (by (with_reducible repeat (first | apply Kd.R_alloc | apply Kd.R_drewN | apply Kd.R_drew)); exact HO_216005.out))) (below_size (by repeat (first | (with_reducible first | exact HB.out | apply below_alloc | apply pw_below_drewN | apply below_drew1 | refine below_set ?_ GE201.out | refine below_set ?_ GE215.out) | exact HB.out)))); have n5_ := Aside0.mk (Kd.S_lower (Kd.S_new' (Kd.S_new' (Kd.S_new' ho2 (Kd.R_lt (by (with_reducible repeat (first | apply Kd.R_alloc | apply Kd.R_drewN | apply Kd.R_drew)); exact HO_216004.out))) (Kd.R_lt (by (with_reducible repeat (first | apply Kd.R_alloc | apply Kd.R_drewN | apply Kd.R_drew)); exact HO_216005.out))) (Kd.S_lt (by (with_reducible repeat (first | apply Kd.S_alloc | apply Kd.S_drewN | apply Kd.S_drew)); exact HO_216006.out))) (below_size (by repeat (first | (with_reducible first | exact HB.out | apply below_alloc | apply pw_below_drewN | apply below_drew1 | refine below_set ?_ GE201.out | refine below_set ?_ GE215.out) | exact HB.out)))); have n6_ := Aside0.mk (blk_below (g := gb201) (o := .cells #[.int .i64 0, .int .i64 0, .int .i64 0, .int .i64 0, .slice none 0 0, .slice none 0 0, .slice none 0 0] 43 (0, 0)) (by (with_reducible repeat (first | refine blk_drewN ?_ _ | refine blk_drew ?_ | refine blk_alloc ?_ _)); exact BK201.out) hb); have n7_ := Aside0.mk (blk_below (g := gb215) (o := .cells #[.int .i64 x216000_1, .int .i64 x216001_1, .int .i64 x216002_1, .int .i64 x216003_1, .slice Ao17 x216004_1.length co17, .slice Ao18 x216005_1.length co18, .slice Ao19 x216006_1.length co19] 43 (0, 0)) (by (with_reducible repeat (first | refine blk_drewN ?_ _ | refine blk_drew ?_ | refine blk_alloc ?_ _)); exact BK215.out) hb); have n8_ := Aside0.mk (below_step (by repeat (first | (with_reducible first | exact HB.out | apply below_alloc | apply pw_below_drewN | apply below_drew1 | refine below_set ?_ GE201.out | refine below_set ?_ GE215.out) | exact HB.out)) hb); clear HO_216004; clear HO_216005; clear HO_216006; clear BK201; clear BK215; clear HB; have HO_216004 := n0_; have HO_216005 := n1_; have HO_216006 := n2_; have HO223 := n3_; have HO226 := n4_; have HO229 := n5_; have BK201 := n6_; have BK215 := n7_; have HB := n8_; clear n0_ n1_ n2_ n3_ n4_ n5_ n6_ n7_ n8_; (try clear hb); (try clear hb2); (try clear hk); (try clear hi); (try clear ho0); (try clear ho1); (try clear ho2); have hcz21_0 : w20.cell? ⟨gb215, 0, none⟩ = some (.int .i64 x216000_1) := (blk_cell BK215.out 0).trans rfl; have hcz21_1 : w20.cell? ⟨gb215, 1, none⟩ = some (.int .i64 x216001_1) := (blk_cell BK215.out 1).trans rfl; have hcz21_2 : w20.cell? ⟨gb215, 2, none⟩ = some (.int .i64 x216002_1) := (blk_cell BK215.out 2).trans rfl; have hcz21_3 : w20.cell? ⟨gb215, 3, none⟩ = some (.int .i64 x216003_1) := (blk_cell BK215.out 3).trans rfl; have hcz21_4 : w20.cell? ⟨gb215, 4, none⟩ = some (.slice Ao17 x216004_1.length co17) := (blk_cell BK215.out 4).trans rfl; have hcz21_5 : w20.cell? ⟨gb215, 5, none⟩ = some (.slice Ao18 x216005_1.length co18) := (blk_cell BK215.out 5).trans rfl; have hcz21_6 : w20.cell? ⟨gb215, 6, none⟩ = some (.slice Ao19 x216006_1.length co19) := (blk_cell BK215.out 6).trans rfl; have hfz21_0 := blk_frozen BK215.out 0; have hfz21_1 := blk_frozen BK215.out 1; have hfz21_2 := blk_frozen BK215.out 2; have hfz21_3 := blk_frozen BK215.out 3; have hfz21_4 := blk_frozen BK215.out 4; have hfz21_5 := blk_frozen BK215.out 5; have hfz21_6 := blk_frozen BK215.out 6; obtain ⟨Ao22, co22, eo22⟩ := Kd.R_slice HO223.out; subst eo22; obtain ⟨Ao23, co23, eo23⟩ := Kd.R_slice HO226.out; subst eo23; obtain ⟨Ao24, co24, eo24⟩ := Kd.S_slice HO229.out; subst eo24))
      go_roundg k1
      case measure => have := HK1.out; omega
      case rel => exact ⟨(wrap64 (x9_1 + 1)), (t217), (t218), (t219), (t220), (t221), (t224), (t227), (.slice Ao22 t221.length co22), (.slice Ao23 t224.length co23), (.slice Ao24 t227.length co24), (by first | rfl | (simp; done) | (simp [*]; done)), H', ⟨by have := HK1.out; omega⟩, ⟨by (with_reducible repeat (first | apply Kd.R_alloc | apply Kd.R_drewN | apply Kd.R_drew)); exact Kd.R_mono (Kd.R_far (p := ⟨gb215, 6, none⟩) (Kd.R_far (p := ⟨gb215, 5, none⟩) (Kd.R_far (p := ⟨gb215, 4, none⟩) (Kd.R_far (p := ⟨gb215, 3, none⟩) (Kd.R_far (p := ⟨gb215, 2, none⟩) (Kd.R_far (p := ⟨gb215, 1, none⟩) (Kd.R_far (p := ⟨gb215, 0, none⟩) (Kd.R_types HO223.out BK215.out (by decide)) (fun _ hk => hk.2) (.int .i64 t217)) (fun _ hk => hk.2) (.int .i64 t218)) (fun _ hk => hk.2) (.int .i64 t219)) (fun _ hk => hk.2) (.int .i64 t220)) (fun _ hk => hk.2) (.slice Ao22 t221.length co22)) (fun _ hk => hk.2) (.slice Ao23 t224.length co23)) (fun _ hk => hk.2) (.slice Ao24 t227.length co24)) (fun _ hk => hk.1.1.1)⟩, ⟨by (with_reducible repeat (first | apply Kd.R_alloc | apply Kd.R_drewN | apply Kd.R_drew)); exact Kd.R_mono (Kd.R_far (p := ⟨gb215, 6, none⟩) (Kd.R_far (p := ⟨gb215, 5, none⟩) (Kd.R_far (p := ⟨gb215, 4, none⟩) (Kd.R_far (p := ⟨gb215, 3, none⟩) (Kd.R_far (p := ⟨gb215, 2, none⟩) (Kd.R_far (p := ⟨gb215, 1, none⟩) (Kd.R_far (p := ⟨gb215, 0, none⟩) (Kd.R_types HO226.out BK215.out (by decide)) (fun _ hk => hk.2) (.int .i64 t217)) (fun _ hk => hk.2) (.int .i64 t218)) (fun _ hk => hk.2) (.int .i64 t219)) (fun _ hk => hk.2) (.int .i64 t220)) (fun _ hk => hk.2) (.slice Ao22 t221.length co22)) (fun _ hk => hk.2) (.slice Ao23 t224.length co23)) (fun _ hk => hk.2) (.slice Ao24 t227.length co24)) (fun _ hk => hk.1.1.1)⟩, ⟨by (with_reducible repeat (first | apply Kd.S_alloc | apply Kd.S_drewN | apply Kd.S_drew)); exact Kd.S_mono (Kd.S_far (p := ⟨gb215, 6, none⟩) (Kd.S_far (p := ⟨gb215, 5, none⟩) (Kd.S_far (p := ⟨gb215, 4, none⟩) (Kd.S_far (p := ⟨gb215, 3, none⟩) (Kd.S_far (p := ⟨gb215, 2, none⟩) (Kd.S_far (p := ⟨gb215, 1, none⟩) (Kd.S_far (p := ⟨gb215, 0, none⟩) (Kd.S_types HO229.out BK215.out (by decide)) (fun _ hk => hk.2) (.int .i64 t217)) (fun _ hk => hk.2) (.int .i64 t218)) (fun _ hk => hk.2) (.int .i64 t219)) (fun _ hk => hk.2) (.int .i64 t220)) (fun _ hk => hk.2) (.slice Ao22 t221.length co22)) (fun _ hk => hk.2) (.slice Ao23 t224.length co23)) (fun _ hk => hk.2) (.slice Ao24 t227.length co24)) (fun _ hk => ⟨hk.1.1.1.1.1, hk.1.1.1.1.2⟩)⟩, ⟨by (with_reducible repeat (first | refine blk_drewN ?_ _ | refine blk_drew ?_ | refine blk_alloc ?_ _)); refine blk_far ?_ NB201_215.out _; (with_reducible repeat (first | refine blk_drewN ?_ _ | refine blk_drew ?_ | refine blk_alloc ?_ _)); refine blk_far ?_ NB201_215.out _; (with_reducible repeat (first | refine blk_drewN ?_ _ | refine blk_drew ?_ | refine blk_alloc ?_ _)); refine blk_far ?_ NB201_215.out _; (with_reducible repeat (first | refine blk_drewN ?_ _ | refine blk_drew ?_ | refine blk_alloc ?_ _)); refine blk_far ?_ NB201_215.out _; (with_reducible repeat (first | refine blk_drewN ?_ _ | refine blk_drew ?_ | refine blk_alloc ?_ _)); refine blk_far ?_ NB201_215.out _; (with_reducible repeat (first | refine blk_drewN ?_ _ | refine blk_drew ?_ | refine blk_alloc ?_ _)); refine blk_far ?_ NB201_215.out _; (with_reducible repeat (first | refine blk_drewN ?_ _ | refine blk_drew ?_ | refine blk_alloc ?_ _)); refine blk_far ?_ NB201_215.out _; (with_reducible repeat (first | refine blk_drewN ?_ _ | refine blk_drew ?_ | refine blk_alloc ?_ _)); exact BK201.out⟩, ⟨by (with_reducible repeat (first | refine blk_drewN ?_ _ | refine blk_drew ?_ | refine blk_alloc ?_ _)); refine blk_put (cs := #[.int .i64 t217, .int .i64 t218, .int .i64 t219, .int .i64 t220, .slice Ao22 t221.length co22, .slice Ao23 t224.length co23, .slice Ao19 x216006_1.length co19]) ?_ 6 _ rfl; (with_reducible repeat (first | refine blk_drewN ?_ _ | refine blk_drew ?_ | refine blk_alloc ?_ _)); refine blk_put (cs := #[.int .i64 t217, .int .i64 t218, .int .i64 t219, .int .i64 t220, .slice Ao22 t221.length co22, .slice Ao18 x216005_1.length co18, .slice Ao19 x216006_1.length co19]) ?_ 5 _ rfl; (with_reducible repeat (first | refine blk_drewN ?_ _ | refine blk_drew ?_ | refine blk_alloc ?_ _)); refine blk_put (cs := #[.int .i64 t217, .int .i64 t218, .int .i64 t219, .int .i64 t220, .slice Ao17 x216004_1.length co17, .slice Ao18 x216005_1.length co18, .slice Ao19 x216006_1.length co19]) ?_ 4 _ rfl; (with_reducible repeat (first | refine blk_drewN ?_ _ | refine blk_drew ?_ | refine blk_alloc ?_ _)); refine blk_put (cs := #[.int .i64 t217, .int .i64 t218, .int .i64 t219, .int .i64 x216003_1, .slice Ao17 x216004_1.length co17, .slice Ao18 x216005_1.length co18, .slice Ao19 x216006_1.length co19]) ?_ 3 _ rfl; (with_reducible repeat (first | refine blk_drewN ?_ _ | refine blk_drew ?_ | refine blk_alloc ?_ _)); refine blk_put (cs := #[.int .i64 t217, .int .i64 t218, .int .i64 x216002_1, .int .i64 x216003_1, .slice Ao17 x216004_1.length co17, .slice Ao18 x216005_1.length co18, .slice Ao19 x216006_1.length co19]) ?_ 2 _ rfl; (with_reducible repeat (first | refine blk_drewN ?_ _ | refine blk_drew ?_ | refine blk_alloc ?_ _)); refine blk_put (cs := #[.int .i64 t217, .int .i64 x216001_1, .int .i64 x216002_1, .int .i64 x216003_1, .slice Ao17 x216004_1.length co17, .slice Ao18 x216005_1.length co18, .slice Ao19 x216006_1.length co19]) ?_ 1 _ rfl; (with_reducible repeat (first | refine blk_drewN ?_ _ | refine blk_drew ?_ | refine blk_alloc ?_ _)); refine blk_put (cs := #[.int .i64 x216000_1, .int .i64 x216001_1, .int .i64 x216002_1, .int .i64 x216003_1, .slice Ao17 x216004_1.length co17, .slice Ao18 x216005_1.length co18, .slice Ao19 x216006_1.length co19]) ?_ 0 _ rfl; (with_reducible repeat (first | refine blk_drewN ?_ _ | refine blk_drew ?_ | refine blk_alloc ?_ _)); exact BK215.out⟩, ⟨by repeat (first | (with_reducible first | exact HB.out | apply below_alloc | apply pw_below_drewN | apply below_drew1 | refine below_set ?_ GE201.out | refine below_set ?_ GE215.out) | exact HB.out)⟩⟩
     ·rw [if_neg c13] at H
      exact absurd H (by simp)
    ·rw [if_neg c12] at H
     exact absurd H (by simp)
   ·rw [if_neg c11] at H
    have c11b0 : decide (x9_1 < (l0.length : Int)) = false := decide_eq_false c11
    clear c11
    simp only [Option.some.injEq, Prod.mk.injEq] at H
    obtain ⟨rfl, rfl, rfl, rfl, rfl, rfl, rfl⟩ := H
    have hnb25 := NB215_201.out
    have hnc25 := NB201_215.out
    have hcz26_0 : wr.cell? ⟨gb215, 0, none⟩ = some (.int .i64 x216000_1) := (blk_cell BK215.out 0).trans rfl
    have hcz26_1 : wr.cell? ⟨gb215, 1, none⟩ = some (.int .i64 x216001_1) := (blk_cell BK215.out 1).trans rfl
    have hcz26_2 : wr.cell? ⟨gb215, 2, none⟩ = some (.int .i64 x216002_1) := (blk_cell BK215.out 2).trans rfl
    have hcz26_3 : wr.cell? ⟨gb215, 3, none⟩ = some (.int .i64 x216003_1) := (blk_cell BK215.out 3).trans rfl
    have hcz26_4 : wr.cell? ⟨gb215, 4, none⟩ = some (u216004) := (blk_cell BK215.out 4).trans rfl
    have hcz26_5 : wr.cell? ⟨gb215, 5, none⟩ = some (u216005) := (blk_cell BK215.out 5).trans rfl
    have hcz26_6 : wr.cell? ⟨gb215, 6, none⟩ = some (u216006) := (blk_cell BK215.out 6).trans rfl
    have hfz26_0 := blk_frozen BK215.out 0
    have hfz26_1 := blk_frozen BK215.out 1
    have hfz26_2 := blk_frozen BK215.out 2
    have hfz26_3 := blk_frozen BK215.out 3
    have hfz26_4 := blk_frozen BK215.out 4
    have hfz26_5 := blk_frozen BK215.out 5
    have hfz26_6 := blk_frozen BK215.out 6
    have hcz27_0 : wr.cell? ⟨gb201, 0, none⟩ = some (.int .i64 0) := (blk_cell BK201.out 0).trans rfl
    have hcz27_1 : wr.cell? ⟨gb201, 1, none⟩ = some (.int .i64 0) := (blk_cell BK201.out 1).trans rfl
    have hcz27_2 : wr.cell? ⟨gb201, 2, none⟩ = some (.int .i64 0) := (blk_cell BK201.out 2).trans rfl
    have hcz27_3 : wr.cell? ⟨gb201, 3, none⟩ = some (.int .i64 0) := (blk_cell BK201.out 3).trans rfl
    have hcz27_4 : wr.cell? ⟨gb201, 4, none⟩ = some (.slice none 0 0) := (blk_cell BK201.out 4).trans rfl
    have hcz27_5 : wr.cell? ⟨gb201, 5, none⟩ = some (.slice none 0 0) := (blk_cell BK201.out 5).trans rfl
    have hcz27_6 : wr.cell? ⟨gb201, 6, none⟩ = some (.slice none 0 0) := (blk_cell BK201.out 6).trans rfl
    have hfz27_0 := blk_frozen BK201.out 0
    have hfz27_1 := blk_frozen BK201.out 1
    have hfz27_2 := blk_frozen BK201.out 2
    have hfz27_3 := blk_frozen BK201.out 3
    have hfz27_4 := blk_frozen BK201.out 4
    have hfz27_5 := blk_frozen BK201.out 5
    have hfz27_6 := blk_frozen BK201.out 6
    obtain ⟨Ao28, co28, eo28⟩ := Kd.R_slice HO_216004.out
    subst eo28
    obtain ⟨Ao29, co29, eo29⟩ := Kd.R_slice HO_216005.out
    subst eo29
    obtain ⟨Ao30, co30, eo30⟩ := Kd.S_slice HO_216006.out
    subst eo30
    go_wp2
    refine bodyPost_ret (results_cell_row rfl _ _ gb201 43 #[.int .i64 x216000_1, .int .i64 x216001_1, .int .i64 x216002_1, .int .i64 x216003_1, .slice Ao28 x216004_1.length co28, .slice Ao29 x216005_1.length co29, .slice Ao30 x216006_1.length co30] (0, 0) _ rfl (by (with_reducible repeat (first | refine blk_drewN ?_ _ | refine blk_drew ?_ | refine blk_alloc ?_ _)); refine blk_put (cs := #[.int .i64 x216000_1, .int .i64 x216001_1, .int .i64 x216002_1, .int .i64 x216003_1, .slice Ao28 x216004_1.length co28, .slice Ao29 x216005_1.length co29, .slice none 0 0]) ?_ 6 _ rfl; (with_reducible repeat (first | refine blk_drewN ?_ _ | refine blk_drew ?_ | refine blk_alloc ?_ _)); refine blk_put (cs := #[.int .i64 x216000_1, .int .i64 x216001_1, .int .i64 x216002_1, .int .i64 x216003_1, .slice Ao28 x216004_1.length co28, .slice none 0 0, .slice none 0 0]) ?_ 5 _ rfl; (with_reducible repeat (first | refine blk_drewN ?_ _ | refine blk_drew ?_ | refine blk_alloc ?_ _)); refine blk_put (cs := #[.int .i64 x216000_1, .int .i64 x216001_1, .int .i64 x216002_1, .int .i64 x216003_1, .slice none 0 0, .slice none 0 0, .slice none 0 0]) ?_ 4 _ rfl; (with_reducible repeat (first | refine blk_drewN ?_ _ | refine blk_drew ?_ | refine blk_alloc ?_ _)); refine blk_put (cs := #[.int .i64 x216000_1, .int .i64 x216001_1, .int .i64 x216002_1, .int .i64 0, .slice none 0 0, .slice none 0 0, .slice none 0 0]) ?_ 3 _ rfl; (with_reducible repeat (first | refine blk_drewN ?_ _ | refine blk_drew ?_ | refine blk_alloc ?_ _)); refine blk_put (cs := #[.int .i64 x216000_1, .int .i64 x216001_1, .int .i64 0, .int .i64 0, .slice none 0 0, .slice none 0 0, .slice none 0 0]) ?_ 2 _ rfl; (with_reducible repeat (first | refine blk_drewN ?_ _ | refine blk_drew ?_ | refine blk_alloc ?_ _)); refine blk_put (cs := #[.int .i64 x216000_1, .int .i64 0, .int .i64 0, .int .i64 0, .slice none 0 0, .slice none 0 0, .slice none 0 0]) ?_ 1 _ rfl; (with_reducible repeat (first | refine blk_drewN ?_ _ | refine blk_drew ?_ | refine blk_alloc ?_ _)); refine blk_put (cs := #[.int .i64 0, .int .i64 0, .int .i64 0, .int .i64 0, .slice none 0 0, .slice none 0 0, .slice none 0 0]) ?_ 0 _ rfl; (with_reducible repeat (first | refine blk_drewN ?_ _ | refine blk_drew ?_ | refine blk_alloc ?_ _)); exact BK201.out) Tryd.underlying43 rfl (by kernel_rfl)) rfl ?_
    exact ⟨_, _, _, by first | rfl | (simp [errW_none, errW_some] <;> rfl) | (simp [*, errW_none, errW_some] <;> rfl), by (with_reducible repeat (first | apply Kd.R_alloc | apply Kd.R_drewN | apply Kd.R_drew)); exact Kd.R_mono (Kd.R_far (p := ⟨gb201, 6, none⟩) (Kd.R_far (p := ⟨gb201, 5, none⟩) (Kd.R_far (p := ⟨gb201, 4, none⟩) (Kd.R_far (p := ⟨gb201, 3, none⟩) (Kd.R_far (p := ⟨gb201, 2, none⟩) (Kd.R_far (p := ⟨gb201, 1, none⟩) (Kd.R_far (p := ⟨gb201, 0, none⟩) (Kd.R_types HO_216004.out BK201.out (by decide)) (fun _ hk => hk.2) (.int .i64 x216000_1)) (fun _ hk => hk.2) (.int .i64 x216001_1)) (fun _ hk => hk.2) (.int .i64 x216002_1)) (fun _ hk => hk.2) (.int .i64 x216003_1)) (fun _ hk => hk.2) (.slice Ao28 x216004_1.length co28)) (fun _ hk => hk.2) (.slice Ao29 x216005_1.length co29)) (fun _ hk => hk.2) (.slice Ao30 x216006_1.length co30)) (fun _ hk => hk.1), by (with_reducible repeat (first | apply Kd.R_alloc | apply Kd.R_drewN | apply Kd.R_drew)); exact Kd.R_mono (Kd.R_far (p := ⟨gb201, 6, none⟩) (Kd.R_far (p := ⟨gb201, 5, none⟩) (Kd.R_far (p := ⟨gb201, 4, none⟩) (Kd.R_far (p := ⟨gb201, 3, none⟩) (Kd.R_far (p := ⟨gb201, 2, none⟩) (Kd.R_far (p := ⟨gb201, 1, none⟩) (Kd.R_far (p := ⟨gb201, 0, none⟩) (Kd.R_types HO_216005.out BK201.out (by decide)) (fun _ hk => hk.2) (.int .i64 x216000_1)) (fun _ hk => hk.2) (.int .i64 x216001_1)) (fun _ hk => hk.2) (.int .i64 x216002_1)) (fun _ hk => hk.2) (.int .i64 x216003_1)) (fun _ hk => hk.2) (.slice Ao28 x216004_1.length co28)) (fun _ hk => hk.2) (.slice Ao29 x216005_1.length co29)) (fun _ hk => hk.2) (.slice Ao30 x216006_1.length co30)) (fun _ hk => hk.1), by (with_reducible repeat (first | apply Kd.S_alloc | apply Kd.S_drewN | apply Kd.S_drew)); exact Kd.S_mono (Kd.S_far (p := ⟨gb201, 6, none⟩) (Kd.S_far (p := ⟨gb201, 5, none⟩) (Kd.S_far (p := ⟨gb201, 4, none⟩) (Kd.S_far (p := ⟨gb201, 3, none⟩) (Kd.S_far (p := ⟨gb201, 2, none⟩) (Kd.S_far (p := ⟨gb201, 1, none⟩) (Kd.S_far (p := ⟨gb201, 0, none⟩) (Kd.S_types HO_216006.out BK201.out (by decide)) (fun _ hk => hk.2) (.int .i64 x216000_1)) (fun _ hk => hk.2) (.int .i64 x216001_1)) (fun _ hk => hk.2) (.int .i64 x216002_1)) (fun _ hk => hk.2) (.int .i64 x216003_1)) (fun _ hk => hk.2) (.slice Ao28 x216004_1.length co28)) (fun _ hk => hk.2) (.slice Ao29 x216005_1.length co29)) (fun _ hk => hk.2) (.slice Ao30 x216006_1.length co30)) (fun _ hk => ⟨hk.1.1, hk.1.2⟩), by repeat (first | (with_reducible first | exact HB.out | apply below_alloc | apply pw_below_drewN | apply below_drew1 | refine below_set ?_ GE201.out | refine below_set ?_ GE215.out) | exact HB.out)⟩

end Go.Proofs.YtkpicmjncfhnmaaDoor.PFnTells
