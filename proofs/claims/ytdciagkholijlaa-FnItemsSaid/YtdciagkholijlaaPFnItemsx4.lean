-- Written by this session's changed copy of the kit's printer (wip/patch_print.py): not the kit's own print.
import Derived.Test.YtdciagkholijlaaPFnItemsx0
import Derived.Test.YtdciagkholijlaaPFnItemsx2
import Derived.Test.YtdciagkholijlaaPFnItemsx3
namespace Go.Proofs.Ytdciagkholijlaa.PFnItems
open Go.RowKit Go.Proofs.YtdciagkholijlaaW.PrintWords Go.Proofs.YtdciagkholijlaaW.PrintLast Go.Proofs.YtdciagkholijlaaW.PrintMore
attribute [local go_sem] max2_int min2_int max_two min_two max_three min_three max_four min_four   -- for this text's walks alone
set_option linter.unusedVariables false
set_option linter.unusedSimpArgs false
theorem Z4x0 {p : Prop} (h : p := by have := Z_2.out; have := Z_6.out; have := Z_9.out; have := Z_13.out; have := Z_19.out; have := Z_26.out; have := Z_32.out; omega) : p := h
theorem Z4x1 {p : Prop} (h : p := by (try simp only [List.map_toArray, List.map_cons, List.map_nil]); first | done | rfl | (simp only [List.length_drop, List.length_take]; rfl)) : p := h
theorem Z4x2 {p : Prop} (h : p := by first | rfl | (simp; done) | (simp [*]; done)) : p := h
theorem Z4x3 {p : Prop} (h : p := by repeat (first | exact Drawn0.refl _ | apply Drawn0.step)) : p := h
theorem Z4x4 {p : Prop} (h : p := by have := Z_2.out; have := Z_6.out; have := Z_9.out; have := Z_13.out; have := Z_19.out; have := Z_26.out; omega) : p := h

def spec_Add.f (a0 : Int) (a1 : Int) : Option (Int) := (spec_l2Clip.f a0 1000000000).bind fun t165 => ((spec_l2Clip.f a1 1000000000).bind fun t166 => ((spec_l1Min.f (wrap64 (t165 + t166)) 1000000000).bind fun t167 => (some t167)))
set_option maxHeartbeats 8000000 in
set_option maxRecDepth 100000 in
theorem spec_Add.calls (a0 : Int) (a1 : Int) (r : Int) (w : World) (h : spec_Add.f a0 a1 = some r) :
  Calls Try.prog 107 #[.int .i64 a0, .int .i64 a1] w fun e w' => e = .returned (.int .i64 r) ∧ Drawn0 w w' := by
 have H : ((spec_l2Clip.f a0 1000000000).bind fun t165 => ((spec_l2Clip.f a1 1000000000).bind fun t166 => ((spec_l1Min.f (wrap64 (t165 + t166)) 1000000000).bind fun t167 => (some t167)))) = some r := h
 clear h
 replace H := Option.bind_eq_some_iff.mp H
 obtain ⟨t165, A30, H⟩ := H
 replace H : ((spec_l2Clip.f a1 1000000000).bind fun t166 => ((spec_l1Min.f (wrap64 (t165 + t166)) 1000000000).bind fun t167 => (some t167))) = some r := H
 have A3 := Aside0.mk A30
 clear A30
 replace H := Option.bind_eq_some_iff.mp H
 obtain ⟨t166, A40, H⟩ := H
 replace H : ((spec_l1Min.f (wrap64 (t165 + t166)) 1000000000).bind fun t167 => (some t167)) = some r := H
 have A4 := Aside0.mk A40
 clear A40
 replace H := Option.bind_eq_some_iff.mp H
 obtain ⟨t167, A50, H⟩ := H
 replace H : (some t167) = some r := H
 have A5 := Aside0.mk A50
 clear A50
 obtain rfl := Option.some.inj H
 simp only [Option.some.injEq, Prod.mk.injEq] at H
 obtain ⟨rfl⟩ := H
 go_enter Try.func107, Try.ntmps107
 go_wp2_with (first | ((with_reducible refine gate_callee (f := 117) rfl ?_); refine goesL_ (some 6) rfl rfl Try.func117 (by kernel_rfl) rfl #[.int .i64 a0, .int .i64 1000000000] rfl Z4x1 ?_; (with_reducible refine (spec_l2Clip.calls a0 1000000000 t165 _ A3.out).mono ?_); rintro e w' ⟨rfl, ⟨nd, rfl⟩⟩; refine ⟨_, rfl, ?_⟩) | ((with_reducible refine gate_callee (f := 117) rfl ?_); refine goesL_ (some 8) rfl rfl Try.func117 (by kernel_rfl) rfl #[.int .i64 a1, .int .i64 1000000000] rfl Z4x1 ?_; (with_reducible refine (spec_l2Clip.calls a1 1000000000 t166 _ A4.out).mono ?_); rintro e w' ⟨rfl, ⟨nd, rfl⟩⟩; refine ⟨_, rfl, ?_⟩) | ((with_reducible refine gate_callee (f := 108) rfl ?_); refine goesL_ (some 10) rfl rfl Try.func108 (by kernel_rfl) rfl #[.int .i64 (wrap64 (t165 + t166)), .int .i64 1000000000] rfl Z4x1 ?_; (with_reducible refine (spec_l1Min.calls (wrap64 (t165 + t166)) 1000000000 t167 _ A5.out).mono ?_); rintro e w' ⟨rfl, ⟨nd, rfl⟩⟩; refine ⟨_, rfl, ?_⟩))
 go_ret
 exact ⟨Z4x2, Z4x3⟩

def spec_BucketOf.l0 : Nat → Int → Int → Option (Int)
 | 0, _, _ => none
 | k + 1, x3, x4 => if x3 > 0 then (spec_BucketOf.l0 k (wrap64 (Int.tdiv x3 2)) (wrap64 (x4 + 1))) else (some (wrap64 (Int.tdiv (wrap64 (x4 + 2)) 3)))
def spec_BucketOf.f (k : Nat) (a0 : Int) : Option (Int) := (spec_l2Clip.f a0 1000000).bind fun t168 => (spec_BucketOf.l0 k t168 0)
theorem spec_BucketOf.mono_l : ∀ k, (∀ y0 y1, LeO (spec_BucketOf.l0 k y0 y1) (spec_BucketOf.l0 (k + 1) y0 y1))
 | 0 => fun _ _ r h => by simp [spec_BucketOf.l0] at h
 | k + 1 => by
  have ih0 := spec_BucketOf.mono_l k
  ·intro y0 y1
   unfold spec_BucketOf.l0
   repeat' first
   | (with_reducible exact ih0 _ _)
   | (with_reducible exact LeO.refl _)
   | (with_reducible exact LeO.none _)
   | (with_reducible refine LeO.ite ?_ ?_)
   | (with_reducible refine LeO.bind ?_ (fun _ => ?_))
   | exact ih0 _ _
   | exact LeO.none _
   | refine LeO.ite ?_ ?_
   | refine LeO.bind ?_ (fun _ => ?_)
theorem spec_BucketOf.mono : ∀ a0 k, LeO (spec_BucketOf.f k a0) (spec_BucketOf.f (k + 1) a0) := by
 intro a0 k
 have ih0 := spec_BucketOf.mono_l k
 unfold spec_BucketOf.f
 repeat' first
   | (with_reducible exact ih0 _ _)
   | (with_reducible exact LeO.refl _)
   | (with_reducible exact LeO.none _)
   | (with_reducible refine LeO.ite ?_ ?_)
   | (with_reducible refine LeO.bind ?_ (fun _ => ?_))
   | exact ih0 _ _
   | exact LeO.none _
   | refine LeO.ite ?_ ?_
   | refine LeO.bind ?_ (fun _ => ?_)
set_option maxHeartbeats 8000000 in
set_option maxRecDepth 100000 in
theorem spec_BucketOf.calls (k : Nat) (a0 : Int) (r : Int) (w : World) (h : spec_BucketOf.f k a0 = some r) :
  Calls Try.prog 118 #[.int .i64 a0] w fun e w' => e = .returned (.int .i64 r) ∧ Drawn0 w w' := by
 have H : ((spec_l2Clip.f a0 1000000).bind fun t168 => (spec_BucketOf.l0 k t168 0)) = some r := h
 clear h
 replace H := Option.bind_eq_some_iff.mp H
 obtain ⟨t168, A20, H⟩ := H
 replace H : (spec_BucketOf.l0 k t168 0) = some r := H
 have A2 := Aside0.mk A20
 clear A20
 have H' := Aside0.mk H
 clear H
 go_enter Try.func118, Try.ntmps118
 go_wp2_with (first | ((with_reducible refine gate_callee (f := 117) rfl ?_); refine goesL_ (some 6) rfl rfl Try.func117 (by kernel_rfl) rfl #[.int .i64 a0, .int .i64 1000000] rfl Z4x1 ?_; (with_reducible refine (spec_l2Clip.calls a0 1000000 t168 _ A2.out).mono ?_); rintro e w' ⟨rfl, ⟨nd, rfl⟩⟩; refine ⟨_, rfl, ?_⟩))
 go_loopg [3, 4] k (fun kq v3 v4 w' => ∃ (x3_1 : Int) (x4_1 : Int), v3 = .int .i64 x3_1 ∧ v4 = .int .i64 x4_1 ∧ Aside0 (spec_BucketOf.l0 kq x3_1 x4_1 = some r) ∧ Aside0 (kq ≤ k) ∧ Drawn0 w w')
 case atStart => exact ⟨(t168), (0), Z4x2, Z4x2, H', ⟨Nat.le_refl _⟩, Z4x3⟩
 case round =>
  clear H'
  try clear c1
  try clear p2
  obtain ⟨x3_1, x4_1, rfl, rfl, HA, HK1, ⟨m1, rfl⟩⟩ := hrel
  cases gk with
  | zero => exact absurd HA.out (by simp [spec_BucketOf.l0])
  | succ k1 =>
   have H := HA.out
   clear HA
   simp only [spec_BucketOf.l0] at H
   by_cases c3 : x3_1 > 0
   ·rw [if_pos c3] at H
    have c3b0 : decide (0 < x3_1) = true := decide_eq_true c3;clear c3;have H' := Aside0.mk H;clear H
    go_wp2
    go_roundg k1
    case measure => have := HK1.out; omega
    case rel => exact ⟨(wrap64 (Int.tdiv x3_1 2)), (wrap64 (x4_1 + 1)), Z4x2, Z4x2, H', ⟨by have := HK1.out; omega⟩, Z4x3⟩
   ·rw [if_neg c3] at H
    have c3b0 : decide (0 < x3_1) = false := decide_eq_false c3;clear c3;obtain rfl := Option.some.inj H;simp only [Option.some.injEq, Prod.mk.injEq] at H;obtain ⟨rfl⟩ := H
    go_wp2
    go_ret
    exact ⟨Z4x2, Z4x3⟩

def spec_Mix.f (a0 : Int) : Option (Int) := (spec_l2Clip.f a0 1000000).bind fun t169 => (some (Go.bits .xor .i64 (Int.tmod (wrap64 ((wrap64 (t169 * 40503)) + 12345)) 65536) (wrap64 (Int.tdiv (Int.tmod (wrap64 ((wrap64 (t169 * 40503)) + 12345)) 65536) 256))))
set_option maxHeartbeats 8000000 in
set_option maxRecDepth 100000 in
theorem spec_Mix.calls (a0 : Int) (r : Int) (w : World) (h : spec_Mix.f a0 = some r) :
  Calls Try.prog 119 #[.int .i64 a0] w fun e w' => e = .returned (.int .i64 r) ∧ Drawn0 w w' := by
 have H : ((spec_l2Clip.f a0 1000000).bind fun t169 => (some (Go.bits .xor .i64 (Int.tmod (wrap64 ((wrap64 (t169 * 40503)) + 12345)) 65536) (wrap64 (Int.tdiv (Int.tmod (wrap64 ((wrap64 (t169 * 40503)) + 12345)) 65536) 256))))) = some r := h
 clear h
 replace H := Option.bind_eq_some_iff.mp H
 obtain ⟨t169, A20, H⟩ := H
 replace H : (some (Go.bits .xor .i64 (Int.tmod (wrap64 ((wrap64 (t169 * 40503)) + 12345)) 65536) (wrap64 (Int.tdiv (Int.tmod (wrap64 ((wrap64 (t169 * 40503)) + 12345)) 65536) 256)))) = some r := H
 have A2 := Aside0.mk A20
 clear A20
 obtain rfl := Option.some.inj H
 simp only [Option.some.injEq, Prod.mk.injEq] at H
 obtain ⟨rfl⟩ := H
 go_enter Try.func119, Try.ntmps119
 go_wp2_with (first | ((with_reducible refine gate_callee (f := 117) rfl ?_); refine goesL_ (some 5) rfl rfl Try.func117 (by kernel_rfl) rfl #[.int .i64 a0, .int .i64 1000000] rfl Z4x1 ?_; (with_reducible refine (spec_l2Clip.calls a0 1000000 t169 _ A2.out).mono ?_); rintro e w' ⟨rfl, ⟨nd, rfl⟩⟩; refine ⟨_, rfl, ?_⟩))
 go_ret
 exact ⟨Z4x2, Z4x3⟩

def spec_RankOf.l0 : Nat → Int → Int → Option (Int)
 | 0, _, _ => none
 | k + 1, x3, x4 => if (Int.tmod x3 2) = 0 then (spec_RankOf.l0 k (wrap64 (Int.tdiv x3 2)) (wrap64 (x4 + 1))) else (some x4)
def spec_RankOf.f (k : Nat) (a0 : Int) : Option (Int) := (spec_Mix.f a0).bind fun t170 => (if t170 = 0 then (some 17) else (spec_RankOf.l0 k t170 1))
theorem spec_RankOf.mono_l : ∀ k, (∀ y0 y1, LeO (spec_RankOf.l0 k y0 y1) (spec_RankOf.l0 (k + 1) y0 y1))
 | 0 => fun _ _ r h => by simp [spec_RankOf.l0] at h
 | k + 1 => by
  have ih0 := spec_RankOf.mono_l k
  ·intro y0 y1
   unfold spec_RankOf.l0
   repeat' first
   | (with_reducible exact ih0 _ _)
   | (with_reducible exact LeO.refl _)
   | (with_reducible exact LeO.none _)
   | (with_reducible refine LeO.ite ?_ ?_)
   | (with_reducible refine LeO.bind ?_ (fun _ => ?_))
   | exact ih0 _ _
   | exact LeO.none _
   | refine LeO.ite ?_ ?_
   | refine LeO.bind ?_ (fun _ => ?_)
theorem spec_RankOf.mono : ∀ a0 k, LeO (spec_RankOf.f k a0) (spec_RankOf.f (k + 1) a0) := by
 intro a0 k
 have ih0 := spec_RankOf.mono_l k
 unfold spec_RankOf.f
 repeat' first
   | (with_reducible exact ih0 _ _)
   | (with_reducible exact LeO.refl _)
   | (with_reducible exact LeO.none _)
   | (with_reducible refine LeO.ite ?_ ?_)
   | (with_reducible refine LeO.bind ?_ (fun _ => ?_))
   | exact ih0 _ _
   | exact LeO.none _
   | refine LeO.ite ?_ ?_
   | refine LeO.bind ?_ (fun _ => ?_)
set_option maxHeartbeats 8000000 in
set_option maxRecDepth 100000 in
theorem spec_RankOf.calls (k : Nat) (a0 : Int) (r : Int) (w : World) (h : spec_RankOf.f k a0 = some r) :
  Calls Try.prog 120 #[.int .i64 a0] w fun e w' => e = .returned (.int .i64 r) ∧ Drawn0 w w' := by
 have H : ((spec_Mix.f a0).bind fun t170 => (if t170 = 0 then (some 17) else (spec_RankOf.l0 k t170 1))) = some r := h
 clear h
 replace H := Option.bind_eq_some_iff.mp H
 obtain ⟨t170, A20, H⟩ := H
 replace H : (if t170 = 0 then (some 17) else (spec_RankOf.l0 k t170 1)) = some r := H
 have A2 := Aside0.mk A20
 clear A20
 by_cases c3 : t170 = 0
 ·rw [if_pos c3] at H
  have c3b0 : (t170 == 0) = true := beq_iff_eq.mpr c3
  have c3b1 : (t170 != 0) = false := bne_eq_false_iff_eq.mpr c3
  clear c3
  obtain rfl := Option.some.inj H
  simp only [Option.some.injEq, Prod.mk.injEq] at H
  obtain ⟨rfl⟩ := H
  go_enter Try.func120, Try.ntmps120
  go_wp2_with (first | ((with_reducible refine gate_callee (f := 119) rfl ?_); refine goesL_ (some 6) rfl rfl Try.func119 (by kernel_rfl) rfl #[.int .i64 a0] rfl Z4x1 ?_; (with_reducible refine (spec_Mix.calls a0 t170 _ A2.out).mono ?_); rintro e w' ⟨rfl, ⟨nd, rfl⟩⟩; refine ⟨_, rfl, ?_⟩))
  go_ret
  exact ⟨Z4x2, Z4x3⟩
 ·rw [if_neg c3] at H
  have c3b0 : (t170 == 0) = false := beq_eq_false_iff_ne.mpr c3
  have c3b1 : (t170 != 0) = true := bne_iff_ne.mpr c3
  have H' := Aside0.mk H
  clear H
  go_enter Try.func120, Try.ntmps120
  go_wp2_with (first | ((with_reducible refine gate_callee (f := 119) rfl ?_); refine goesL_ (some 6) rfl rfl Try.func119 (by kernel_rfl) rfl #[.int .i64 a0] rfl Z4x1 ?_; (with_reducible refine (spec_Mix.calls a0 t170 _ A2.out).mono ?_); rintro e w' ⟨rfl, ⟨nd, rfl⟩⟩; refine ⟨_, rfl, ?_⟩))
  go_loopg [3, 4] k (fun kq v3 v4 w' => ∃ (x3_1 : Int) (x4_1 : Int), v3 = .int .i64 x3_1 ∧ v4 = .int .i64 x4_1 ∧ Aside0 (spec_RankOf.l0 kq x3_1 x4_1 = some r) ∧ Aside0 (kq ≤ k) ∧ Drawn0 w w')
  case atStart => exact ⟨(t170), (1), Z4x2, Z4x2, H', ⟨Nat.le_refl _⟩, Z4x3⟩
  case round =>
   clear H'
   try clear c1
   try clear p2
   try clear c3
   try clear c3b0
   try clear c3b1
   obtain ⟨x3_1, x4_1, rfl, rfl, HA, HK1, ⟨m1, rfl⟩⟩ := hrel
   cases gk with
   | zero => exact absurd HA.out (by simp [spec_RankOf.l0])
   | succ k1 =>
    have H := HA.out;clear HA;simp only [spec_RankOf.l0] at H
    by_cases c4 : (Int.tmod x3_1 2) = 0
    ·rw [if_pos c4] at H
     have c4b0 : ((Int.tmod x3_1 2) == 0) = true := beq_iff_eq.mpr c4;have c4b1 : ((Int.tmod x3_1 2) != 0) = false := bne_eq_false_iff_eq.mpr c4;clear c4;have H' := Aside0.mk H;clear H
     go_wp2
     go_roundg k1
     case measure => have := HK1.out; omega
     case rel => exact ⟨(wrap64 (Int.tdiv x3_1 2)), (wrap64 (x4_1 + 1)), Z4x2, Z4x2, H', ⟨by have := HK1.out; omega⟩, Z4x3⟩
    ·rw [if_neg c4] at H
     have c4b0 : ((Int.tmod x3_1 2) == 0) = false := beq_eq_false_iff_ne.mpr c4;have c4b1 : ((Int.tmod x3_1 2) != 0) = true := bne_iff_ne.mpr c4;obtain rfl := Option.some.inj H;simp only [Option.some.injEq, Prod.mk.injEq] at H;obtain ⟨rfl⟩ := H
     go_wp2
     go_ret
     exact ⟨Z4x2, Z4x3⟩

theorem spec_l1Min.still (a b r : Int) (w : World) (h : spec_l1Min.f a b = some r) : Calls Try.prog 108 #[.int .i64 a, .int .i64 b] w fun e w' => e = .returned (.int .i64 r) ∧ w' = w := by
 unfold spec_l1Min.f at h
 by_cases c : a < b
 ·rw [if_pos c] at h
  obtain rfl := Option.some.inj h
  have c1 : decide (a < b) = true := decide_eq_true c
  clear h c
  go_enter Try.func108, Try.ntmps108
  go_wp2
  go_ret
  exact ⟨rfl, rfl⟩
 ·rw [if_neg c] at h
  obtain rfl := Option.some.inj h
  have c1 : decide (a < b) = false := decide_eq_false c
  clear h c
  go_enter Try.func108, Try.ntmps108
  go_wp2
  go_ret
  exact ⟨rfl, rfl⟩
theorem spec_l1Max.still (a b r : Int) (w : World) (h : spec_l1Max.f a b = some r) : Calls Try.prog 109 #[.int .i64 a, .int .i64 b] w fun e w' => e = .returned (.int .i64 r) ∧ w' = w := by
 unfold spec_l1Max.f at h
 by_cases c : a > b
 ·rw [if_pos c] at h
  obtain rfl := Option.some.inj h
  have c1 : decide (b < a) = true := decide_eq_true c
  clear h c
  go_enter Try.func109, Try.ntmps109
  go_wp2
  go_ret
  exact ⟨rfl, rfl⟩
 ·rw [if_neg c] at h
  obtain rfl := Option.some.inj h
  have c1 : decide (b < a) = false := decide_eq_false c
  clear h c
  go_enter Try.func109, Try.ntmps109
  go_wp2
  go_ret
  exact ⟨rfl, rfl⟩
theorem spec_l2Clip.still (a b r : Int) (w : World) (h : spec_l2Clip.f a b = some r) : Calls Try.prog 117 #[.int .i64 a, .int .i64 b] w fun e w' => e = .returned (.int .i64 r) ∧ w' = w := by
 obtain ⟨t, h1, h2⟩ := Option.bind_eq_some_iff.mp h
 obtain ⟨t', h3, h4⟩ := Option.bind_eq_some_iff.mp h2
 obtain rfl := Option.some.inj h4
 have H1 := Aside0.mk h1
 have H3 := Aside0.mk h3
 clear h h1 h2 h3 h4
 go_enter Try.func117, Try.ntmps117
 go_wp2_with fail
 refine (spec_l1Min.still _ _ _ _ H1.out).mono ?_
 rintro e w' ⟨rfl, rfl⟩
 go_wp2_with fail
 refine (spec_l1Max.still _ _ _ _ H3.out).mono ?_
 rintro e w' ⟨rfl, rfl⟩
 go_wp2
 go_ret
 exact ⟨rfl, rfl⟩
theorem spec_Add.still (a b r : Int) (w : World) (h : spec_Add.f a b = some r) : Calls Try.prog 107 #[.int .i64 a, .int .i64 b] w fun e w' => e = .returned (.int .i64 r) ∧ w' = w := by
 obtain ⟨t, h1, h2⟩ := Option.bind_eq_some_iff.mp h
 obtain ⟨t', h3, h4⟩ := Option.bind_eq_some_iff.mp h2
 obtain ⟨t'', h5, h6⟩ := Option.bind_eq_some_iff.mp h4
 obtain rfl := Option.some.inj h6
 have H1 := Aside0.mk h1
 have H3 := Aside0.mk h3
 have H5 := Aside0.mk h5
 clear h h1 h2 h3 h4 h5 h6
 go_enter Try.func107, Try.ntmps107
 go_wp2_with fail
 refine (spec_l2Clip.still _ _ _ _ H1.out).mono ?_
 rintro e w' ⟨rfl, rfl⟩
 go_wp2_with fail
 refine (spec_l2Clip.still _ _ _ _ H3.out).mono ?_
 rintro e w' ⟨rfl, rfl⟩
 go_wp2_with fail
 refine (spec_l1Min.still _ _ _ _ H5.out).mono ?_
 rintro e w' ⟨rfl, rfl⟩
 go_wp2
 go_ret
 exact ⟨rfl, rfl⟩
theorem spec_Mix.still (a0 r : Int) (w : World) (h : spec_Mix.f a0 = some r) : Calls Try.prog 119 #[.int .i64 a0] w fun e w' => e = .returned (.int .i64 r) ∧ w' = w := by
 obtain ⟨t, h1, h2⟩ := Option.bind_eq_some_iff.mp h
 obtain rfl := Option.some.inj h2
 have H1 := Aside0.mk h1
 clear h h1 h2
 go_enter Try.func119, Try.ntmps119
 go_wp2_with fail
 refine (spec_l2Clip.still _ _ _ _ H1.out).mono ?_
 rintro e w' ⟨rfl, rfl⟩
 go_wp2
 go_ret
 exact ⟨by first | rfl | (simp; done) | (simp only [IntKind.wrap_i64, wrap64]; done) | (simp only [IntKind.wrap_i64, wrap64]; rfl), rfl⟩
theorem spec_BucketOf.still (k : Nat) (a0 r : Int) (w : World) (h : spec_BucketOf.f k a0 = some r) : Calls Try.prog 118 #[.int .i64 a0] w fun e w' => e = .returned (.int .i64 r) ∧ w' = w := by
 obtain ⟨t, h1, h2⟩ := Option.bind_eq_some_iff.mp h
 have H1 := Aside0.mk h1
 have H' := Aside0.mk h2
 clear h h1 h2
 go_enter Try.func118, Try.ntmps118
 go_wp2_with fail
 refine (spec_l2Clip.still _ _ _ _ H1.out).mono ?_
 rintro e w' ⟨rfl, rfl⟩
 go_wp2
 go_loopg [3, 4] k (fun kq v3 v4 wr => ∃ (x y : Int), v3 = .int .i64 x ∧ v4 = .int .i64 y ∧ Aside0 (spec_BucketOf.l0 kq x y = some r) ∧ Aside0 (kq ≤ k) ∧ wr = w')
 case atStart => exact ⟨t, 0, rfl, rfl, H', ⟨Nat.le_refl _⟩, rfl⟩
 case round =>
  clear H'
  obtain ⟨x, y, rfl, rfl, HA, HK, rfl⟩ := hrel
  cases gk with
  | zero => exact absurd HA.out (by simp [spec_BucketOf.l0])
  | succ k1 =>
   have H := HA.out
   clear HA
   simp only [spec_BucketOf.l0] at H
   by_cases c : x > 0
   ·rw [if_pos c] at H
    have c1 : decide (0 < x) = true := decide_eq_true c;clear c;have H' := Aside0.mk H;clear H
    go_wp2
    go_roundg k1
    case measure => have := HK.out; omega
    case rel => exact ⟨wrap64 (Int.tdiv x 2), wrap64 (y + 1), by first | rfl | (simp; done), by first | rfl | (simp; done), H', ⟨by have := HK.out; omega⟩, rfl⟩
   ·rw [if_neg c] at H
    have c1 : decide (0 < x) = false := decide_eq_false c;clear c;obtain rfl := Option.some.inj H;clear H
    go_wp2
    go_ret
    exact ⟨by first | rfl | (simp; done), rfl⟩
theorem spec_RankOf.still (k : Nat) (a0 r : Int) (w : World) (h : spec_RankOf.f k a0 = some r) : Calls Try.prog 120 #[.int .i64 a0] w fun e w' => e = .returned (.int .i64 r) ∧ w' = w := by
 obtain ⟨t, h1, h2⟩ := Option.bind_eq_some_iff.mp h
 have H1 := Aside0.mk h1
 clear h h1
 by_cases c : t = 0
 ·rw [if_pos c] at h2
  obtain rfl := Option.some.inj h2
  subst c
  clear h2
  go_enter Try.func120, Try.ntmps120
  go_wp2_with fail
  refine (spec_Mix.still _ _ _ H1.out).mono ?_
  rintro e w' ⟨rfl, rfl⟩
  go_wp2
  go_ret
  exact ⟨rfl, rfl⟩
 ·rw [if_neg c] at h2
  have H' := Aside0.mk h2
  have c1 : (t == 0) = false := beq_eq_false_iff_ne.mpr c
  clear h2
  go_enter Try.func120, Try.ntmps120
  go_wp2_with fail
  refine (spec_Mix.still _ _ _ H1.out).mono ?_
  rintro e w' ⟨rfl, rfl⟩
  go_wp2
  go_loopg [3, 4] k (fun kq v3 v4 wr => ∃ (x y : Int), v3 = .int .i64 x ∧ v4 = .int .i64 y ∧ Aside0 (spec_RankOf.l0 kq x y = some r) ∧ Aside0 (kq ≤ k) ∧ wr = w')
  case atStart => exact ⟨t, 1, rfl, rfl, H', ⟨Nat.le_refl _⟩, rfl⟩
  case round =>
   clear H' c c1
   obtain ⟨x, y, rfl, rfl, HA, HK, rfl⟩ := hrel
   cases gk with
   | zero => exact absurd HA.out (by simp [spec_RankOf.l0])
   | succ k1 =>
    have H := HA.out;clear HA;simp only [spec_RankOf.l0] at H
    by_cases c : Int.tmod x 2 = 0
    ·rw [if_pos c] at H
     have c1 : (Int.tmod x 2 == 0) = true := beq_iff_eq.mpr c;clear c;have H' := Aside0.mk H;clear H
     go_wp2
     go_roundg k1
     case measure => have := HK.out; omega
     case rel => exact ⟨wrap64 (Int.tdiv x 2), wrap64 (y + 1), by first | rfl | (simp; done), by first | rfl | (simp; done), H', ⟨by have := HK.out; omega⟩, rfl⟩
    ·rw [if_neg c] at H
     have c1 : (Int.tmod x 2 == 0) = false := beq_eq_false_iff_ne.mpr c;obtain rfl := Option.some.inj H;clear H
     go_wp2
     go_ret
     exact ⟨by first | rfl | (simp; done), rfl⟩
theorem spec_Insert.ok (k : Nat) {w : World} {x y z : Sl} {h r : List Int} {R : List (List Int)} (c s lo hi : Int) (t : Bool) (u : Rd w x y z h r R) (he : spec_SketchOk.f k c s lo hi h r R = some t) :
  Calls Try.prog 73 #[.agg #[.int .i64 c, .int .i64 s, .int .i64 lo, .int .i64 hi, .slice x.A x.n x.c, .slice y.A y.n y.c, .slice z.A z.n z.c]] w fun e w' => e = .returned (.bool t) ∧ Below w.heap.size w w' := by
 rw [u.e4, u.e5, u.e6]
 exact (spec_SketchOk.calls k c s lo hi _ _ h _ _ r _ _ R t w u.C4 u.l4 u.C5 u.l5 u.C6 u.l6 he).mono fun e w' ⟨h1, h2⟩ => ⟨h1, by first | exact h2 | exact h2.below⟩
theorem spec_Insert.cp (k : Nat) {w : World} {x y z : Sl} {h r : List Int} {R : List (List Int)} (c s lo hi : Int) (u : Rd w x y z h r R) (he : spec_l3Copy.f k c s lo hi h r R = some (c, s, lo, hi, h, r, R)) :
  Calls Try.prog 38 #[.agg #[.int .i64 c, .int .i64 s, .int .i64 lo, .int .i64 hi, .slice x.A x.n x.c, .slice y.A y.n y.c, .slice z.A z.n z.c]] w fun e w' => ∃ (x' y' z' : Sl) (a b : Nat), e = .returned (.agg #[.int .i64 c, .int .i64 s, .int .i64 lo, .int .i64 hi, .slice x'.A x'.n x'.c, .slice y'.A y'.n y'.c, .slice z'.A z'.n z'.c]) ∧ Sk w' a b x' y' z' h r R ∧ Made w w' a b ∧ Below w.heap.size w w' := by
 rw [u.e4, u.e5, u.e6]
 refine (spec_l3Copy.calls k c s lo hi _ _ h _ _ r _ _ R c s lo hi h r R w u.C4 u.l4 u.C5 u.l5 u.C6 u.l6 he).mono ?_
 rintro e w' ⟨v4, v5, v6, rfl, h4, h5, h6, hb⟩
 obtain ⟨x', y', z', rfl, rfl, rfl, hs⟩ := Sk.of h4 h5 h6 (fun _ hk => hk) (fun _ hk => hk)
 exact ⟨x', y', z', _, _, rfl, hs, ⟨Nat.le_refl _, hb.size, Nat.le_refl _⟩, hb⟩
set_option maxHeartbeats 16000000 in
set_option maxRecDepth 100000 in
theorem spec_Insert.no1 (k : Nat) (c s lo hi v : Int) {A4 A5 A6 : Option Addr} {c4 c5 c6 : Nat} {h r : List Int} {R : List (List Int)} (w : World) (u : Rd w ⟨A4, h.length, c4⟩ ⟨A5, r.length, c5⟩ ⟨A6, R.length, c6⟩ h r R) (K3 : Aside0 (spec_l3Copy.f k c s lo hi h r R = some (c, s, lo, hi, h, r, R)))
  (K1 : Aside0 (spec_SketchOk.f k c s lo hi h r R = some false)) :
  Calls Try.prog 112 #[.agg #[.int .i64 c, .int .i64 s, .int .i64 lo, .int .i64 hi, .slice A4 h.length c4, .slice A5 r.length c5, .slice A6 R.length c6], .int .i64 v] w (SkOut w c s lo hi h r R false) := by
 have U := Aside0.mk u
 clear u
 go_enter Try.func112, Try.ntmps112
 have HB_1 := Aside0.mk ((below_alloc (Below.refl _ w) (.cells #[.int .i64 c, .int .i64 s, .int .i64 lo, .int .i64 hi, .slice A4 h.length c4, .slice A5 r.length c5, .slice A6 R.length c6] 27)))
 have Z_2 := Aside0.mk (show (w.alloc (.cells #[.int .i64 c, .int .i64 s, .int .i64 lo, .int .i64 hi, .slice A4 h.length c4, .slice A5 r.length c5, .slice A6 R.length c6] 27)).heap.size = w.heap.size + 1 by simp)
 have bxa_3 := Aside0.mk (Bx.new w 27 #[.int .i64 c, .int .i64 s, .int .i64 lo, .int .i64 hi, .slice A4 h.length c4, .slice A5 r.length c5, .slice A6 R.length c6])
 have bxa_4 := Aside0.mk (bxa_3.out.below (below_alloc (Below.refl _ (w.alloc (.cells #[.int .i64 c, .int .i64 s, .int .i64 lo, .int .i64 hi, .slice A4 h.length c4, .slice A5 r.length c5, .slice A6 R.length c6] 27))) (.cells #[.int .i64 0, .int .i64 0, .int .i64 0, .int .i64 0, .slice none 0 0, .slice none 0 0, .slice none 0 0] 27)))
 have HB_5 := Aside0.mk (below_step HB_1.out (below_alloc (Below.refl _ (w.alloc (.cells #[.int .i64 c, .int .i64 s, .int .i64 lo, .int .i64 hi, .slice A4 h.length c4, .slice A5 r.length c5, .slice A6 R.length c6] 27))) (.cells #[.int .i64 0, .int .i64 0, .int .i64 0, .int .i64 0, .slice none 0 0, .slice none 0 0, .slice none 0 0] 27)))
 have Z_6 := Aside0.mk (show ((w.alloc (.cells #[.int .i64 c, .int .i64 s, .int .i64 lo, .int .i64 hi, .slice A4 h.length c4, .slice A5 r.length c5, .slice A6 R.length c6] 27)).alloc (.cells #[.int .i64 0, .int .i64 0, .int .i64 0, .int .i64 0, .slice none 0 0, .slice none 0 0, .slice none 0 0] 27)).heap.size = w.heap.size + 1 + 1 by simp)
 have bxo_7 := Aside0.mk ((show Bx ((w.alloc (.cells #[.int .i64 c, .int .i64 s, .int .i64 lo, .int .i64 hi, .slice A4 h.length c4, .slice A5 r.length c5, .slice A6 R.length c6] 27)).alloc (.cells #[.int .i64 0, .int .i64 0, .int .i64 0, .int .i64 0, .slice none 0 0, .slice none 0 0, .slice none 0 0] 27)) (w.heap.size + 1) 27 #[.int .i64 0, .int .i64 0, .int .i64 0, .int .i64 0, .slice none 0 0, .slice none 0 0, .slice none 0 0] from (show (w.alloc (.cells #[.int .i64 c, .int .i64 s, .int .i64 lo, .int .i64 hi, .slice A4 h.length c4, .slice A5 r.length c5, .slice A6 R.length c6] 27)).heap.size = w.heap.size + 1 by simp) ▸ Bx.new (w.alloc (.cells #[.int .i64 c, .int .i64 s, .int .i64 lo, .int .i64 hi, .slice A4 h.length c4, .slice A5 r.length c5, .slice A6 R.length c6] 27)) 27 #[.int .i64 0, .int .i64 0, .int .i64 0, .int .i64 0, .slice none 0 0, .slice none 0 0, .slice none 0 0]))
 clear bxa_3 HB_1
 go_wp2_with fail
 refine (spec_Insert.cp k c s lo hi (U.out.below HB_5.out) K3.out).mono ?_
 rintro e w1 ⟨x1, y1, z1, a1, b1, rfl, hs, hm, hb⟩
 have S_8 := Aside0.mk hs
 clear hs
 have Z_9 := Aside0.mk hm
 clear hm
 unfold Made at Z_9
 have bxa_10 := Aside0.mk (bxa_4.out.below hb)
 have bxo_11 := Aside0.mk (bxo_7.out.below hb)
 have HB_12 := Aside0.mk (below_step HB_5.out hb)
 have Z_13 := Aside0.mk (hb.size)
 clear bxa_4 bxo_7 HB_5 hb
 obtain ⟨bxa13c0, bxa13c1, bxa13c2, bxa13c3, bxa13c4, bxa13c5, bxa13c6⟩ := bxa_10.out.cellsA
 go_wp2_with fail
 clear bxa13c0 bxa13c1 bxa13c2 bxa13c3 bxa13c4 bxa13c5 bxa13c6
 have bxa_15 := Aside0.mk (bxa_10.out.below (below_alloc (Below.refl _ w1) (.cells #[.int .i64 c, .int .i64 s, .int .i64 lo, .int .i64 hi, .slice x1.A x1.n x1.c, .slice y1.A y1.n y1.c, .slice z1.A z1.n z1.c] 27)))
 have bxo_16 := Aside0.mk (bxo_11.out.below (below_alloc (Below.refl _ w1) (.cells #[.int .i64 c, .int .i64 s, .int .i64 lo, .int .i64 hi, .slice x1.A x1.n x1.c, .slice y1.A y1.n y1.c, .slice z1.A z1.n z1.c] 27)))
 have S_17 := Aside0.mk (S_8.out.below (below_alloc (Below.refl _ w1) (.cells #[.int .i64 c, .int .i64 s, .int .i64 lo, .int .i64 hi, .slice x1.A x1.n x1.c, .slice y1.A y1.n y1.c, .slice z1.A z1.n z1.c] 27)))
 have HB_18 := Aside0.mk (below_step HB_12.out (below_alloc (Below.refl _ w1) (.cells #[.int .i64 c, .int .i64 s, .int .i64 lo, .int .i64 hi, .slice x1.A x1.n x1.c, .slice y1.A y1.n y1.c, .slice z1.A z1.n z1.c] 27)))
 have Z_19 := Aside0.mk (show (w1.alloc (.cells #[.int .i64 c, .int .i64 s, .int .i64 lo, .int .i64 hi, .slice x1.A x1.n x1.c, .slice y1.A y1.n y1.c, .slice z1.A z1.n z1.c] 27)).heap.size = w1.heap.size + 1 by simp)
 have bx6_20 := Aside0.mk (Bx.new w1 27 #[.int .i64 c, .int .i64 s, .int .i64 lo, .int .i64 hi, .slice x1.A x1.n x1.c, .slice y1.A y1.n y1.c, .slice z1.A z1.n z1.c])
 clear bxa_10 bxo_11 S_8 HB_12
 refine (spec_Insert.ok k c s lo hi false (U.out.below HB_18.out) K1.out).mono ?_
 rintro e w2 ⟨rfl, hb⟩
 have bxa_21 := Aside0.mk (bxa_15.out.below hb)
 have bxo_22 := Aside0.mk (bxo_16.out.below hb)
 have S_23 := Aside0.mk (S_17.out.below hb)
 have bx6_24 := Aside0.mk (bx6_20.out.below hb)
 have HB_25 := Aside0.mk (below_step HB_18.out hb)
 have Z_26 := Aside0.mk (hb.size)
 clear bxa_15 bxo_16 S_17 bx6_20 HB_18 hb
 obtain ⟨bxo26c0, bxo26c1, bxo26c2, bxo26c3, bxo26c4, bxo26c5, bxo26c6⟩ := bxo_22.out.cells
 obtain ⟨bx627c0, bx627c1, bx627c2, bx627c3, bx627c4, bx627c5, bx627c6⟩ := bx6_24.out.cells
 have fz29 := bxo_22.out.fz
 go_wp2
 refine bodyPost_ret (results_ct rfl _ _ (w.heap.size + 1) 27 #[.int .i64 c, .int .i64 s, .int .i64 lo, .int .i64 hi, .slice x1.A x1.n x1.c, .slice y1.A y1.n y1.c, .slice z1.A z1.n z1.c] (0, 0) _ rfl (bxo_22.out.fill _ _ _ _ _ _ _).1 Try.underlying27 rfl (by kernel_rfl)) rfl ?_
 have k1 := (bxo_22.out.fill (.int .i64 c) (.int .i64 s) (.int .i64 lo) (.int .i64 hi) (.slice x1.A x1.n x1.c) (.slice y1.A y1.n y1.c) (.slice z1.A z1.n z1.c)).2
 exact ⟨x1, y1, z1, a1, b1, rfl, S_23.out.kp k1 (.inl Z4x4), ⟨Z4x4, Z4x4, Nat.le_trans Z4x4 k1.kept.1⟩, below_kp HB_25.out k1 (by omega) HB_25.out.size⟩
set_option maxHeartbeats 16000000 in
set_option maxRecDepth 100000 in
theorem spec_Insert.no2 (k : Nat) (c s lo hi v : Int) {A4 A5 A6 : Option Addr} {c4 c5 c6 : Nat} {h r : List Int} {R : List (List Int)} (w : World) (u : Rd w ⟨A4, h.length, c4⟩ ⟨A5, r.length, c5⟩ ⟨A6, R.length, c6⟩ h r R) (K3 : Aside0 (spec_l3Copy.f k c s lo hi h r R = some (c, s, lo, hi, h, r, R)))
  (K1 : Aside0 (spec_SketchOk.f k c s lo hi h r R = some true)) (KW : Aside0 (spec_l1In.f v 0 1000000 = some false)) :
  Calls Try.prog 112 #[.agg #[.int .i64 c, .int .i64 s, .int .i64 lo, .int .i64 hi, .slice A4 h.length c4, .slice A5 r.length c5, .slice A6 R.length c6], .int .i64 v] w (SkOut w c s lo hi h r R false) := by
 have U := Aside0.mk u
 clear u
 go_enter Try.func112, Try.ntmps112
 have HB_1 := Aside0.mk ((below_alloc (Below.refl _ w) (.cells #[.int .i64 c, .int .i64 s, .int .i64 lo, .int .i64 hi, .slice A4 h.length c4, .slice A5 r.length c5, .slice A6 R.length c6] 27)))
 have Z_2 := Aside0.mk (show (w.alloc (.cells #[.int .i64 c, .int .i64 s, .int .i64 lo, .int .i64 hi, .slice A4 h.length c4, .slice A5 r.length c5, .slice A6 R.length c6] 27)).heap.size = w.heap.size + 1 by simp)
 have bxa_3 := Aside0.mk (Bx.new w 27 #[.int .i64 c, .int .i64 s, .int .i64 lo, .int .i64 hi, .slice A4 h.length c4, .slice A5 r.length c5, .slice A6 R.length c6])
 have bxa_4 := Aside0.mk (bxa_3.out.below (below_alloc (Below.refl _ (w.alloc (.cells #[.int .i64 c, .int .i64 s, .int .i64 lo, .int .i64 hi, .slice A4 h.length c4, .slice A5 r.length c5, .slice A6 R.length c6] 27))) (.cells #[.int .i64 0, .int .i64 0, .int .i64 0, .int .i64 0, .slice none 0 0, .slice none 0 0, .slice none 0 0] 27)))
 have HB_5 := Aside0.mk (below_step HB_1.out (below_alloc (Below.refl _ (w.alloc (.cells #[.int .i64 c, .int .i64 s, .int .i64 lo, .int .i64 hi, .slice A4 h.length c4, .slice A5 r.length c5, .slice A6 R.length c6] 27))) (.cells #[.int .i64 0, .int .i64 0, .int .i64 0, .int .i64 0, .slice none 0 0, .slice none 0 0, .slice none 0 0] 27)))
 have Z_6 := Aside0.mk (show ((w.alloc (.cells #[.int .i64 c, .int .i64 s, .int .i64 lo, .int .i64 hi, .slice A4 h.length c4, .slice A5 r.length c5, .slice A6 R.length c6] 27)).alloc (.cells #[.int .i64 0, .int .i64 0, .int .i64 0, .int .i64 0, .slice none 0 0, .slice none 0 0, .slice none 0 0] 27)).heap.size = w.heap.size + 1 + 1 by simp)
 have bxo_7 := Aside0.mk ((show Bx ((w.alloc (.cells #[.int .i64 c, .int .i64 s, .int .i64 lo, .int .i64 hi, .slice A4 h.length c4, .slice A5 r.length c5, .slice A6 R.length c6] 27)).alloc (.cells #[.int .i64 0, .int .i64 0, .int .i64 0, .int .i64 0, .slice none 0 0, .slice none 0 0, .slice none 0 0] 27)) (w.heap.size + 1) 27 #[.int .i64 0, .int .i64 0, .int .i64 0, .int .i64 0, .slice none 0 0, .slice none 0 0, .slice none 0 0] from (show (w.alloc (.cells #[.int .i64 c, .int .i64 s, .int .i64 lo, .int .i64 hi, .slice A4 h.length c4, .slice A5 r.length c5, .slice A6 R.length c6] 27)).heap.size = w.heap.size + 1 by simp) ▸ Bx.new (w.alloc (.cells #[.int .i64 c, .int .i64 s, .int .i64 lo, .int .i64 hi, .slice A4 h.length c4, .slice A5 r.length c5, .slice A6 R.length c6] 27)) 27 #[.int .i64 0, .int .i64 0, .int .i64 0, .int .i64 0, .slice none 0 0, .slice none 0 0, .slice none 0 0]))
 clear bxa_3 HB_1
 go_wp2_with fail
 refine (spec_Insert.cp k c s lo hi (U.out.below HB_5.out) K3.out).mono ?_
 rintro e w1 ⟨x1, y1, z1, a1, b1, rfl, hs, hm, hb⟩
 have S_8 := Aside0.mk hs
 clear hs
 have Z_9 := Aside0.mk hm
 clear hm
 unfold Made at Z_9
 have bxa_10 := Aside0.mk (bxa_4.out.below hb)
 have bxo_11 := Aside0.mk (bxo_7.out.below hb)
 have HB_12 := Aside0.mk (below_step HB_5.out hb)
 have Z_13 := Aside0.mk (hb.size)
 clear bxa_4 bxo_7 HB_5 hb
 obtain ⟨bxa13c0, bxa13c1, bxa13c2, bxa13c3, bxa13c4, bxa13c5, bxa13c6⟩ := bxa_10.out.cellsA
 go_wp2_with fail
 clear bxa13c0 bxa13c1 bxa13c2 bxa13c3 bxa13c4 bxa13c5 bxa13c6
 have bxa_15 := Aside0.mk (bxa_10.out.below (below_alloc (Below.refl _ w1) (.cells #[.int .i64 c, .int .i64 s, .int .i64 lo, .int .i64 hi, .slice x1.A x1.n x1.c, .slice y1.A y1.n y1.c, .slice z1.A z1.n z1.c] 27)))
 have bxo_16 := Aside0.mk (bxo_11.out.below (below_alloc (Below.refl _ w1) (.cells #[.int .i64 c, .int .i64 s, .int .i64 lo, .int .i64 hi, .slice x1.A x1.n x1.c, .slice y1.A y1.n y1.c, .slice z1.A z1.n z1.c] 27)))
 have S_17 := Aside0.mk (S_8.out.below (below_alloc (Below.refl _ w1) (.cells #[.int .i64 c, .int .i64 s, .int .i64 lo, .int .i64 hi, .slice x1.A x1.n x1.c, .slice y1.A y1.n y1.c, .slice z1.A z1.n z1.c] 27)))
 have HB_18 := Aside0.mk (below_step HB_12.out (below_alloc (Below.refl _ w1) (.cells #[.int .i64 c, .int .i64 s, .int .i64 lo, .int .i64 hi, .slice x1.A x1.n x1.c, .slice y1.A y1.n y1.c, .slice z1.A z1.n z1.c] 27)))
 have Z_19 := Aside0.mk (show (w1.alloc (.cells #[.int .i64 c, .int .i64 s, .int .i64 lo, .int .i64 hi, .slice x1.A x1.n x1.c, .slice y1.A y1.n y1.c, .slice z1.A z1.n z1.c] 27)).heap.size = w1.heap.size + 1 by simp)
 have bx6_20 := Aside0.mk (Bx.new w1 27 #[.int .i64 c, .int .i64 s, .int .i64 lo, .int .i64 hi, .slice x1.A x1.n x1.c, .slice y1.A y1.n y1.c, .slice z1.A z1.n z1.c])
 clear bxa_10 bxo_11 S_8 HB_12
 refine (spec_Insert.ok k c s lo hi true (U.out.below HB_18.out) K1.out).mono ?_
 rintro e w2 ⟨rfl, hb⟩
 have bxa_21 := Aside0.mk (bxa_15.out.below hb)
 have bxo_22 := Aside0.mk (bxo_16.out.below hb)
 have S_23 := Aside0.mk (S_17.out.below hb)
 have bx6_24 := Aside0.mk (bx6_20.out.below hb)
 have HB_25 := Aside0.mk (below_step HB_18.out hb)
 have Z_26 := Aside0.mk (hb.size)
 clear bxa_15 bxo_16 S_17 bx6_20 HB_18 hb
 go_wp2_with fail
 refine (spec_l1In.calls v 0 1000000 false _ KW.out).mono ?_
 rintro e w3 ⟨rfl, hd⟩
 have hb := hd.below
 clear hd
 have bxa_27 := Aside0.mk (bxa_21.out.below hb)
 have bxo_28 := Aside0.mk (bxo_22.out.below hb)
 have S_29 := Aside0.mk (S_23.out.below hb)
 have bx6_30 := Aside0.mk (bx6_24.out.below hb)
 have HB_31 := Aside0.mk (below_step HB_25.out hb)
 have Z_32 := Aside0.mk (hb.size)
 clear bxa_21 bxo_22 S_23 bx6_24 HB_25 hb
 obtain ⟨bxo32c0, bxo32c1, bxo32c2, bxo32c3, bxo32c4, bxo32c5, bxo32c6⟩ := bxo_28.out.cells
 obtain ⟨bx633c0, bx633c1, bx633c2, bx633c3, bx633c4, bx633c5, bx633c6⟩ := bx6_30.out.cells
 have fz35 := bxo_28.out.fz
 go_wp2
 refine bodyPost_ret (results_ct rfl _ _ (w.heap.size + 1) 27 #[.int .i64 c, .int .i64 s, .int .i64 lo, .int .i64 hi, .slice x1.A x1.n x1.c, .slice y1.A y1.n y1.c, .slice z1.A z1.n z1.c] (0, 0) _ rfl (bxo_28.out.fill _ _ _ _ _ _ _).1 Try.underlying27 rfl (by kernel_rfl)) rfl ?_
 have k1 := (bxo_28.out.fill (.int .i64 c) (.int .i64 s) (.int .i64 lo) (.int .i64 hi) (.slice x1.A x1.n x1.c) (.slice y1.A y1.n y1.c) (.slice z1.A z1.n z1.c)).2
 exact ⟨x1, y1, z1, a1, b1, rfl, S_29.out.kp k1 (.inl Z4x0), ⟨Z4x0, Z4x0, Nat.le_trans Z4x0 k1.kept.1⟩, below_kp HB_31.out k1 (by omega) HB_31.out.size⟩
set_option maxHeartbeats 16000000 in
set_option maxRecDepth 100000 in
theorem spec_Insert.yes (k : Nat) (c s lo hi v : Int) {A4 A5 A6 : Option Addr} {c4 c5 c6 : Nat} {h r : List Int} {R : List (List Int)} (w : World) (u : Rd w ⟨A4, h.length, c4⟩ ⟨A5, r.length, c5⟩ ⟨A6, R.length, c6⟩ h r R) (K3 : Aside0 (spec_l3Copy.f k c s lo hi h r R = some (c, s, lo, hi, h, r, R)))
  (K1 : Aside0 (spec_SketchOk.f k c s lo hi h r R = some true)) (KW : Aside0 (spec_l1In.f v 0 1000000 = some true)) (L : Aside0 (h.length = 8 ∧ r.length = 8 ∧ R.length = 2)) (c1 s1 m2 m3 hb1 rk m0 : Int) (b mm : Nat) (ad0 : Aside0 (spec_Add.f c 1 = some c1)) (ad1 : Aside0 (spec_Add.f s v = some s1))
  (HQ : Aside0 (((c == 0) = true ∧ m2 = v ∧ True) ∨ ((c == 0) = false ∧ m2 = m0 ∧ True))) (QM : Aside0 (spec_l1Min.f lo v = some m0)) (QX : Aside0 (spec_l1Max.f hi v = some m3)) (MK : Aside0 (spec_Mix.f v = some (mm : Int))) (MB : Aside0 (mm < 65536)) (BK : Aside0 (spec_BucketOf.f k v = some (b : Int))) (HBb : Aside0 (b < 8)) (v2 : Int) (V2 : Aside0 (h.getD b 0 = v2))
  (v3 rv : Int) (V3 : Aside0 (r.getD (mm % 8) 0 = v3)) (RZ : Aside0 (spec_l1Max.f v3 rk = some rv)) (RK : Aside0 (spec_RankOf.f k v = some rk)) (WZ : List (List Int)) (LZ : Aside0 (WZ.length = 2)) (AW : Aside0 (∀ i, i < 2 → ∃ z, (R.getD i []).length = 4 ∧ spec_Add.f ((R.getD i []).getD ((i + mm) % 4) 0) 1 = some z ∧ WZ.getD i [] = (R.getD i []).set ((i + mm) % 4) z)) (ad2 : Aside0 (spec_Add.f v2 1 = some hb1)) :
  Calls Try.prog 112 #[.agg #[.int .i64 c, .int .i64 s, .int .i64 lo, .int .i64 hi, .slice A4 h.length c4, .slice A5 r.length c5, .slice A6 R.length c6], .int .i64 v] w (SkOut w c1 s1 m2 m3 (h.set b hb1) (r.set (mm % 8) rv) WZ true) := by
 have U := Aside0.mk u
 clear u
 go_enter Try.func112, Try.ntmps112
 have HB_1 := Aside0.mk ((below_alloc (Below.refl _ w) (.cells #[.int .i64 c, .int .i64 s, .int .i64 lo, .int .i64 hi, .slice A4 h.length c4, .slice A5 r.length c5, .slice A6 R.length c6] 27)))
 have Z_2 := Aside0.mk (show (w.alloc (.cells #[.int .i64 c, .int .i64 s, .int .i64 lo, .int .i64 hi, .slice A4 h.length c4, .slice A5 r.length c5, .slice A6 R.length c6] 27)).heap.size = w.heap.size + 1 by simp)
 have bxa_3 := Aside0.mk (Bx.new w 27 #[.int .i64 c, .int .i64 s, .int .i64 lo, .int .i64 hi, .slice A4 h.length c4, .slice A5 r.length c5, .slice A6 R.length c6])
 have bxa_4 := Aside0.mk (bxa_3.out.below (below_alloc (Below.refl _ (w.alloc (.cells #[.int .i64 c, .int .i64 s, .int .i64 lo, .int .i64 hi, .slice A4 h.length c4, .slice A5 r.length c5, .slice A6 R.length c6] 27))) (.cells #[.int .i64 0, .int .i64 0, .int .i64 0, .int .i64 0, .slice none 0 0, .slice none 0 0, .slice none 0 0] 27)))
 have HB_5 := Aside0.mk (below_step HB_1.out (below_alloc (Below.refl _ (w.alloc (.cells #[.int .i64 c, .int .i64 s, .int .i64 lo, .int .i64 hi, .slice A4 h.length c4, .slice A5 r.length c5, .slice A6 R.length c6] 27))) (.cells #[.int .i64 0, .int .i64 0, .int .i64 0, .int .i64 0, .slice none 0 0, .slice none 0 0, .slice none 0 0] 27)))
 have Z_6 := Aside0.mk (show ((w.alloc (.cells #[.int .i64 c, .int .i64 s, .int .i64 lo, .int .i64 hi, .slice A4 h.length c4, .slice A5 r.length c5, .slice A6 R.length c6] 27)).alloc (.cells #[.int .i64 0, .int .i64 0, .int .i64 0, .int .i64 0, .slice none 0 0, .slice none 0 0, .slice none 0 0] 27)).heap.size = w.heap.size + 1 + 1 by simp)
 have bxo_7 := Aside0.mk ((show Bx ((w.alloc (.cells #[.int .i64 c, .int .i64 s, .int .i64 lo, .int .i64 hi, .slice A4 h.length c4, .slice A5 r.length c5, .slice A6 R.length c6] 27)).alloc (.cells #[.int .i64 0, .int .i64 0, .int .i64 0, .int .i64 0, .slice none 0 0, .slice none 0 0, .slice none 0 0] 27)) (w.heap.size + 1) 27 #[.int .i64 0, .int .i64 0, .int .i64 0, .int .i64 0, .slice none 0 0, .slice none 0 0, .slice none 0 0] from (show (w.alloc (.cells #[.int .i64 c, .int .i64 s, .int .i64 lo, .int .i64 hi, .slice A4 h.length c4, .slice A5 r.length c5, .slice A6 R.length c6] 27)).heap.size = w.heap.size + 1 by simp) ▸ Bx.new (w.alloc (.cells #[.int .i64 c, .int .i64 s, .int .i64 lo, .int .i64 hi, .slice A4 h.length c4, .slice A5 r.length c5, .slice A6 R.length c6] 27)) 27 #[.int .i64 0, .int .i64 0, .int .i64 0, .int .i64 0, .slice none 0 0, .slice none 0 0, .slice none 0 0]))
 clear bxa_3 HB_1
 go_wp2_with fail
 refine (spec_Insert.cp k c s lo hi (U.out.below HB_5.out) K3.out).mono ?_
 rintro e w1 ⟨x1, y1, z1, a1, b1, rfl, hs, hm, hb⟩
 have S_8 := Aside0.mk hs
 clear hs
 have Z_9 := Aside0.mk hm
 clear hm
 unfold Made at Z_9
 have bxa_10 := Aside0.mk (bxa_4.out.below hb)
 have bxo_11 := Aside0.mk (bxo_7.out.below hb)
 have HB_12 := Aside0.mk (below_step HB_5.out hb)
 have Z_13 := Aside0.mk (hb.size)
 clear bxa_4 bxo_7 HB_5 hb
 obtain ⟨gx, cx, gy, cy, gz, cz, rfl, rfl, rfl⟩ := S_8.out.named (by have := L.out; omega) (by have := L.out; omega) (by have := L.out; omega)
 obtain ⟨bxa13c0, bxa13c1, bxa13c2, bxa13c3, bxa13c4, bxa13c5, bxa13c6⟩ := bxa_10.out.cellsA
 go_wp2_with fail
 clear bxa13c0 bxa13c1 bxa13c2 bxa13c3 bxa13c4 bxa13c5 bxa13c6
 have bxa_15 := Aside0.mk (bxa_10.out.below (below_alloc (Below.refl _ w1) (.cells #[.int .i64 c, .int .i64 s, .int .i64 lo, .int .i64 hi, .slice (some ⟨gx, 0, none⟩) h.length cx, .slice (some ⟨gy, 0, none⟩) r.length cy, .slice (some ⟨gz, 0, none⟩) R.length cz] 27)))
 have bxo_16 := Aside0.mk (bxo_11.out.below (below_alloc (Below.refl _ w1) (.cells #[.int .i64 c, .int .i64 s, .int .i64 lo, .int .i64 hi, .slice (some ⟨gx, 0, none⟩) h.length cx, .slice (some ⟨gy, 0, none⟩) r.length cy, .slice (some ⟨gz, 0, none⟩) R.length cz] 27)))
 have S_17 := Aside0.mk (S_8.out.below (below_alloc (Below.refl _ w1) (.cells #[.int .i64 c, .int .i64 s, .int .i64 lo, .int .i64 hi, .slice (some ⟨gx, 0, none⟩) h.length cx, .slice (some ⟨gy, 0, none⟩) r.length cy, .slice (some ⟨gz, 0, none⟩) R.length cz] 27)))
 have HB_18 := Aside0.mk (below_step HB_12.out (below_alloc (Below.refl _ w1) (.cells #[.int .i64 c, .int .i64 s, .int .i64 lo, .int .i64 hi, .slice (some ⟨gx, 0, none⟩) h.length cx, .slice (some ⟨gy, 0, none⟩) r.length cy, .slice (some ⟨gz, 0, none⟩) R.length cz] 27)))
 have Z_19 := Aside0.mk (show (w1.alloc (.cells #[.int .i64 c, .int .i64 s, .int .i64 lo, .int .i64 hi, .slice (some ⟨gx, 0, none⟩) h.length cx, .slice (some ⟨gy, 0, none⟩) r.length cy, .slice (some ⟨gz, 0, none⟩) R.length cz] 27)).heap.size = w1.heap.size + 1 by simp)
 have bx6_20 := Aside0.mk (Bx.new w1 27 #[.int .i64 c, .int .i64 s, .int .i64 lo, .int .i64 hi, .slice (some ⟨gx, 0, none⟩) h.length cx, .slice (some ⟨gy, 0, none⟩) r.length cy, .slice (some ⟨gz, 0, none⟩) R.length cz])
 clear bxa_10 bxo_11 S_8 HB_12
 refine (spec_Insert.ok k c s lo hi true (U.out.below HB_18.out) K1.out).mono ?_
 rintro e w2 ⟨rfl, hb⟩
 have bxa_21 := Aside0.mk (bxa_15.out.below hb)
 have bxo_22 := Aside0.mk (bxo_16.out.below hb)
 have S_23 := Aside0.mk (S_17.out.below hb)
 have bx6_24 := Aside0.mk (bx6_20.out.below hb)
 have HB_25 := Aside0.mk (below_step HB_18.out hb)
 have Z_26 := Aside0.mk (hb.size)
 clear bxa_15 bxo_16 S_17 bx6_20 HB_18 hb
 go_wp2_with fail
 refine (spec_l1In.calls v 0 1000000 true _ KW.out).mono ?_
 rintro e w3 ⟨rfl, hd⟩
 have hb := hd.below
 clear hd
 have bxa_27 := Aside0.mk (bxa_21.out.below hb)
 have bxo_28 := Aside0.mk (bxo_22.out.below hb)
 have S_29 := Aside0.mk (S_23.out.below hb)
 have bx6_30 := Aside0.mk (bx6_24.out.below hb)
 have HB_31 := Aside0.mk (below_step HB_25.out hb)
 have Z_32 := Aside0.mk (hb.size)
 clear bxa_21 bxo_22 S_23 bx6_24 HB_25 hb
 have M3 := Aside0.mk (show MInv w w3 a1 b1 w.heap.size (w.heap.size + 1) w1.heap.size ⟨some ⟨gx, 0, none⟩, h.length, cx⟩ ⟨some ⟨gy, 0, none⟩, r.length, cy⟩ ⟨some ⟨gz, 0, none⟩, R.length, cz⟩ #[.int .i64 c, .int .i64 s, .int .i64 lo, .int .i64 hi, .slice A4 h.length c4, .slice A5 r.length c5, .slice A6 R.length c6] #[.int .i64 c, .int .i64 s, .int .i64 lo, .int .i64 hi, .slice (some ⟨gx, 0, none⟩) h.length cx, .slice (some ⟨gy, 0, none⟩) r.length cy, .slice (some ⟨gz, 0, none⟩) R.length cz] h r R from ⟨S_29.out, bxa_27.out, bxo_28.out, bx6_30.out, HB_31.out, Z4x0, Z4x0, Z4x0, Z4x0⟩)
 have AB : a1 ≤ b1 := by have := Z_2.out; have := Z_6.out; have := Z_9.out; have := Z_13.out; have := Z_19.out; have := Z_26.out; have := Z_32.out; omega
 have NE : w.heap.size ≠ w1.heap.size := by have := Z_2.out; have := Z_6.out; have := Z_9.out; have := Z_13.out; have := Z_19.out; have := Z_26.out; have := Z_32.out; omega
 have NE_ : w1.heap.size ≠ w.heap.size := by have := Z_2.out; have := Z_6.out; have := Z_9.out; have := Z_13.out; have := Z_19.out; have := Z_26.out; have := Z_32.out; omega
 clear bxa_27 bxo_28 S_29 bx6_30 HB_31 Z_2 Z_6 Z_9 Z_13 Z_19 Z_26 Z_32
 obtain ⟨q1, h2, h3⟩ | ⟨q1, e2, e3⟩ := HQ.out
 all_goals
  first | (have E2 := Aside0.mk h2; clear h2) | (skip)
  obtain ⟨M3X0, M3X1, M3X2, M3X3, M3X4, M3X5, M3X6⟩ := M3.out.X.cells
  obtain ⟨M3B0, M3B1, M3B2, M3B3, M3B4, M3B5, M3B6⟩ := M3.out.B.cells
  have M3F := M3.out.X.fz
  go_wp2_with fail
  refine (spec_Add.still c 1 c1 _ ad0.out).mono ?_
  rintro e w3 ⟨rfl, rfl⟩
  go_wp2_with fail
  clear M3X0 M3X1 M3X2 M3X3 M3X4 M3X5 M3X6 M3B0 M3B1 M3B2 M3B3 M3B4 M3B5 M3B6 M3F
  have M4 := Aside0.mk (M3.out.set6 AB 0 (.int .i64 c1) (B6' := #[.int .i64 c1, .int .i64 s, .int .i64 lo, .int .i64 hi, .slice (some ⟨gx, 0, none⟩) h.length cx, .slice (some ⟨gy, 0, none⟩) r.length cy, .slice (some ⟨gz, 0, none⟩) R.length cz]) rfl)
  clear M3
  generalize w3.setCell ⟨w1.heap.size, 0, none⟩ (.int .i64 c1) = w4 at *
  refine (spec_Add.still s v s1 _ ad1.out).mono ?_
  rintro e w4 ⟨rfl, rfl⟩
  obtain ⟨M4X0, M4X1, M4X2, M4X3, M4X4, M4X5, M4X6⟩ := M4.out.X.cells
  obtain ⟨M4B0, M4B1, M4B2, M4B3, M4B4, M4B5, M4B6⟩ := M4.out.B.cells
  have M4F := M4.out.X.fz
  go_wp2_with fail
  clear M4X0 M4X1 M4X2 M4X3 M4X4 M4X5 M4X6 M4B0 M4B1 M4B2 M4B3 M4B4 M4B5 M4B6 M4F
  have M5 := Aside0.mk (M4.out.set6 AB 1 (.int .i64 s1) (B6' := #[.int .i64 c1, .int .i64 s1, .int .i64 lo, .int .i64 hi, .slice (some ⟨gx, 0, none⟩) h.length cx, .slice (some ⟨gy, 0, none⟩) r.length cy, .slice (some ⟨gz, 0, none⟩) R.length cz]) rfl)
  clear M4
  generalize w4.setCell ⟨w1.heap.size, 1, none⟩ (.int .i64 s1) = w5 at *
  refine (spec_l1Min.still lo v m0 _ QM.out).mono ?_
  rintro e w5 ⟨rfl, rfl⟩
  obtain ⟨M5X0, M5X1, M5X2, M5X3, M5X4, M5X5, M5X6⟩ := M5.out.X.cells
  obtain ⟨M5B0, M5B1, M5B2, M5B3, M5B4, M5B5, M5B6⟩ := M5.out.B.cells
  have M5F := M5.out.X.fz
  go_wp2_with fail
  clear M5X0 M5X1 M5X2 M5X3 M5X4 M5X5 M5X6 M5B0 M5B1 M5B2 M5B3 M5B4 M5B5 M5B6 M5F
  first | (have M6 := Aside0.mk (show MInv w ((w5.setCell ⟨w1.heap.size, 2, none⟩ (.int .i64 m0)).setCell ⟨w1.heap.size, 2, none⟩ (.int .i64 v)) a1 b1 w.heap.size (w.heap.size + 1) w1.heap.size ⟨some ⟨gx, 0, none⟩, h.length, cx⟩ ⟨some ⟨gy, 0, none⟩, r.length, cy⟩ ⟨some ⟨gz, 0, none⟩, R.length, cz⟩ #[.int .i64 c, .int .i64 s, .int .i64 lo, .int .i64 hi, .slice A4 h.length c4, .slice A5 r.length c5, .slice A6 R.length c6] #[.int .i64 c1, .int .i64 s1, .int .i64 m2, .int .i64 hi, .slice (some ⟨gx, 0, none⟩) h.length cx, .slice (some ⟨gy, 0, none⟩) r.length cy, .slice (some ⟨gz, 0, none⟩) R.length cz] h r R from by rw [E2.out]; exact (M5.out.set6 AB 2 (.int .i64 m0) rfl).set6 AB 2 (.int .i64 v) rfl); clear E2 h3; generalize (w5.setCell ⟨w1.heap.size, 2, none⟩ (.int .i64 m0)).setCell ⟨w1.heap.size, 2, none⟩ (.int .i64 v) = w6 at *) | (have M6 := Aside0.mk (show MInv w (w5.setCell ⟨w1.heap.size, 2, none⟩ (.int .i64 m0)) a1 b1 w.heap.size (w.heap.size + 1) w1.heap.size ⟨some ⟨gx, 0, none⟩, h.length, cx⟩ ⟨some ⟨gy, 0, none⟩, r.length, cy⟩ ⟨some ⟨gz, 0, none⟩, R.length, cz⟩ #[.int .i64 c, .int .i64 s, .int .i64 lo, .int .i64 hi, .slice A4 h.length c4, .slice A5 r.length c5, .slice A6 R.length c6] #[.int .i64 c1, .int .i64 s1, .int .i64 m2, .int .i64 hi, .slice (some ⟨gx, 0, none⟩) h.length cx, .slice (some ⟨gy, 0, none⟩) r.length cy, .slice (some ⟨gz, 0, none⟩) R.length cz] h r R from by rw [e2]; exact M5.out.set6 AB 2 (.int .i64 m0) rfl); clear e2 e3; generalize w5.setCell ⟨w1.heap.size, 2, none⟩ (.int .i64 m0) = w6 at *)
  clear M5 q1
  refine (spec_l1Max.still hi v m3 _ QX.out).mono ?_
  rintro e w6 ⟨rfl, rfl⟩
  obtain ⟨M6X0, M6X1, M6X2, M6X3, M6X4, M6X5, M6X6⟩ := M6.out.X.cells
  have M6F := M6.out.X.fz
  go_wp2_with fail
  clear M6X0 M6X1 M6X2 M6X3 M6X4 M6X5 M6X6 M6F
  have M8 := Aside0.mk (M6.out.set6 AB 3 (.int .i64 m3) (B6' := #[.int .i64 c1, .int .i64 s1, .int .i64 m2, .int .i64 m3, .slice (some ⟨gx, 0, none⟩) h.length cx, .slice (some ⟨gy, 0, none⟩) r.length cy, .slice (some ⟨gz, 0, none⟩) R.length cz]) rfl)
  clear M6
  generalize w6.setCell ⟨w1.heap.size, 3, none⟩ (.int .i64 m3) = w8 at *
  have zb : (b : Int) < (h.length : Int) := by have := L.out; have := HBb.out; omega
  have z0 : (0 : Int) ≤ (b : Int) := by omega
  obtain ⟨p0, _⟩ := M8.out.S.hN (by have := L.out; omega)
  have pc := p0.at_v (i := b) (by have := L.out; have := HBb.out; omega) V2.out
  have pf := p0.fz b
  obtain ⟨n1, n2, _, _⟩ := M8.out.ne6 p0
  clear p0
  obtain ⟨M8X0, M8X1, M8X2, M8X3, M8X4, M8X5, M8X6⟩ := M8.out.X.cells
  have M8F := M8.out.X.fz
  refine wp_region_still_tail 11 (by kernel_rfl) (by kernel_rfl) ?_
  simp only [List.take_succ_cons, List.take_zero, List.drop_succ_cons, List.drop_zero]
  change wpStill _ _ w8.drew _ _ _
  repeat (first | still_step | still_call (spec_BucketOf.still k v b _ BK.out) | still_call (spec_Add.still v2 1 hb1 _ ad2.out))
  refine wpStill_nil ?_
  change wpList _ _ _ _ _ w8.drew
  have PUT := (M8.out.S.hN (by have := L.out; omega)).2 b hb1
  have M9 := Aside0.mk ((M8.out.kp PUT.2 PUT.1).below (below_drew (Below.refl _ _)))
  clear PUT
  go_wp2_with fail
  clear pc pf n1 n2 zb z0 M8X0 M8X1 M8X2 M8X3 M8X4 M8X5 M8X6 M8F
  refine (spec_Mix.still v (mm : Int) _ MK.out).mono ?_
  rintro e w9 ⟨rfl, hw⟩
  rw [← hw] at M9
  clear hw M8
  obtain ⟨M9X0, M9X1, M9X2, M9X3, M9X4, M9X5, M9X6⟩ := M9.out.X.cells
  have M9F := M9.out.X.fz
  have hm0 : (0 : Int) ≤ (mm : Int) := by omega
  have hm1 : (mm : Int) < 65536 := by have := MB.out; omega
  obtain ⟨j8, e8⟩ : ∃ j8 : Nat, (mm : Int) % 8 = (j8 : Int) := ⟨mm % 8, by omega⟩
  have J8 := Aside0.mk (show mm % 8 = j8 by omega)
  have V3 := V3
  rw [J8.out] at V3
  go_wp2_with fail
  try rw [e8]
  clear e8 hm0 hm1 M9X0 M9X1 M9X2 M9X3 M9X4 M9X5 M9X6 M9F
  have zb : (j8 : Int) < (r.length : Int) := by have := L.out; have := J8.out; omega
  have z0 : (0 : Int) ≤ (j8 : Int) := by omega
  obtain ⟨p0, _⟩ := M9.out.S.rN (by have := L.out; omega)
  have pc := p0.at_v (i := j8) (by have := L.out; have := J8.out; omega) V3.out
  have pf := p0.fz j8
  obtain ⟨n1, n2, _, _⟩ := M9.out.ne6 p0
  clear p0
  obtain ⟨M9X0, M9X1, M9X2, M9X3, M9X4, M9X5, M9X6⟩ := M9.out.X.cells
  have M9F := M9.out.X.fz
  refine wp_region_still_tail 11 (by kernel_rfl) (by kernel_rfl) ?_
  simp only [List.take_succ_cons, List.take_zero, List.drop_succ_cons, List.drop_zero]
  change wpStill _ _ w9.drew _ _ _
  repeat (first | still_step | still_call (spec_RankOf.still k v rk _ RK.out) | still_call (spec_l1Max.still v3 rk rv _ RZ.out))
  refine wpStill_nil ?_
  change wpList _ _ _ _ _ w9.drew
  have PUT := (M9.out.S.rN (by have := L.out; omega)).2 j8 rv
  have M10 := Aside0.mk ((M9.out.kp PUT.2 PUT.1).below (below_drew (Below.refl _ _)))
  clear PUT
  obtain ⟨y0, y1, y2, y3, y4, y5, y6⟩ := M10.out.X.cells
  go_wp2_with fail
  clear pc pf n1 n2 zb z0 y0 y1 y2 y3 y4 y5 y6 M9 M9X0 M9X1 M9X2 M9X3 M9X4 M9X5 M9X6 M9F
  go_loopg [8] 2 (fun gg t1 wr => ∃ i : Nat, i ≤ 2 ∧ 2 - i ≤ gg ∧ t1 = .int .i64 i ∧ Aside0 (MInv w wr a1 b1 w.heap.size (w.heap.size + 1) w1.heap.size ⟨some ⟨gx, 0, none⟩, h.length, cx⟩ ⟨some ⟨gy, 0, none⟩, r.length, cy⟩ ⟨some ⟨gz, 0, none⟩, R.length, cz⟩ #[.int .i64 c, .int .i64 s, .int .i64 lo, .int .i64 hi, .slice A4 h.length c4, .slice A5 r.length c5, .slice A6 R.length c6] #[.int .i64 c1, .int .i64 s1, .int .i64 m2, .int .i64 m3, .slice (some ⟨gx, 0, none⟩) h.length cx, .slice (some ⟨gy, 0, none⟩) r.length cy, .slice (some ⟨gz, 0, none⟩) R.length cz] (h.set b hb1) (r.set j8 rv) (mix2 WZ R i)))
  case atStart => exact ⟨0, by omega, by omega, rfl, ⟨by rw [mix2_zero]; exact M10.out⟩⟩
  case round =>
   clear M10
   obtain ⟨i, hi, hg, rfl, M⟩ := hrel
   by_cases hlt : i < 2
   ·have hltz : (i : Int) < 2 := by have := L.out; omega
    have hltr : (i : Int) < (R.length : Int) := by have := L.out; omega
    have h0z : (0 : Int) ≤ (i : Int) := by omega
    have hm0 : (0 : Int) ≤ (mm : Int) := by omega
    have hm1 : (mm : Int) < 65536 := by have := MB.out; omega
    have zl : WZ.length = R.length := by have := LZ.out; have := L.out; omega
    have iR : i < (mix2 WZ R i).length := by rw [mix2_length zl]; have := L.out; omega
    have eR : (mix2 WZ R i)[i] = R.getD i [] := by
     have := mix2_getD zl (show i < R.length by have := L.out; omega) ([] : List Int);rw [List.getD_eq_getElem?_getD, List.getElem?_eq_getElem iR] at this;exact this
    obtain ⟨z, a0, a1_, a2_⟩ := AW.out i hlt;obtain ⟨j, ej, ej2⟩ : ∃ j : Nat, ((mm : Int) + (i : Int)) % 4 = (j : Int) ∧ (i + mm) % 4 = j := ⟨(i + mm) % 4, by omega, rfl⟩;rw [ej2] at a1_ a2_;have J4 := Aside0.mk (show j < 4 by omega);clear ej2;have A0_ := Aside0.mk a0;have A1_ := Aside0.mk a1_;have A2_ := Aside0.mk a2_;obtain ⟨p, cp, gp, P, put⟩ := M.out.S.rowN i iR (by rw [eR]; omega);rw [eR] at gp P put;have pc := P.at_v (i := j) (v := (R.getD i []).getD j 0) (by have := J4.out; omega) rfl;have pf := P.fz j;have PUT := put j z;rw [← A2_.out, mix2_setD zl (by have := L.out; omega)] at PUT;have M1 := Aside0.mk ((M.out.kp PUT.2 PUT.1).below (below_drew (Below.refl _ _)));have lq : (R.getD i []).length = 4 := A0_.out
    have hj1 : (j : Int) < ((R.getD i []).length : Int) := by have := J4.out; omega
    have hj0 : (0 : Int) ≤ (j : Int) := by omega
    obtain ⟨n1, n2, _, _⟩ := M.out.ne6 P;obtain ⟨x0, x1, x2, x3, x4, x5, x6⟩ := M.out.X.cells;clear PUT put P eR iR zl a0 a1_ a2_ lq;generalize (R.getD i []).getD j 0 = v4 at *;generalize R.getD i [] = rowi at *
    go_wp2_with fail
    refine (spec_Mix.still v (mm : Int) _ MK.out).mono ?_
    rintro e w9 ⟨rfl, rfl⟩
    go_wp2_with fail
    try rw [ej]
    clear ej hm0 hm1;refine wp_region_still_tail 15 (by kernel_rfl) (by kernel_rfl) ?_;simp only [List.take_succ_cons, List.take_zero, List.drop_succ_cons, List.drop_zero]
    change wpStill _ _ w9.drew _ _ _
    repeat (first | still_step | still_call (spec_Add.still v4 1 z _ A1_.out))
    refine wpStill_nil ?_
    change wpList _ _ _ _ _ w9.drew
    go_wp2
    go_roundg (2 - (i + 1))
    case measure => omega
    case rel => exact ⟨i + 1, by omega, by omega, by go_num, ⟨M1.out⟩⟩
   ·have : i = 2 := by omega
    subst this
    have hltz : ¬ ((2 : Nat) : Int) < 2 := by have := L.out; omega
    rw [mix2_all (by have := LZ.out; have := L.out; omega) (by have := L.out; omega)] at M;obtain ⟨x0, x1, x2, x3, x4, x5, x6⟩ := M.out.X.cells;obtain ⟨y0, y1, y2, y3, y4, y5, y6⟩ := M.out.O.cells;have fo := M.out.O.fz
    go_wp2
    refine bodyPost_ret (results_ct rfl _ _ (w.heap.size + 1) 27 #[.int .i64 c1, .int .i64 s1, .int .i64 m2, .int .i64 m3, .slice (some ⟨gx, 0, none⟩) h.length cx, .slice (some ⟨gy, 0, none⟩) r.length cy, .slice (some ⟨gz, 0, none⟩) R.length cz] (0, 0) _ rfl (M.out.O.fill _ _ _ _ _ _ _).1 Try.underlying27 rfl (by kernel_rfl)) rfl ?_;have fin := M.out.out (by omega) AB c1 s1 m2 m3 true
    first | exact fin | (rw [← J8.out] at fin; exact fin)

def spec_Insert.g (k : Nat) (a0_0 : Int) (a0_1 : Int) (a0_2 : Int) (a0_3 : Int) (l0_4 : List Int) (l0_5 : List Int) (l0_6 : List (List Int)) (a1 : Int) : Option (Int × Int × Int × Int × List Int × List Int × (List (List Int)) × Bool) := (spec_Add.f a0_0 1).bind fun c1 => (spec_Add.f a0_1 a1).bind fun s1 => (spec_l1Min.f a0_2 a1).bind fun m0 => (spec_l1Max.f a0_3 a1).bind fun m3 => (spec_BucketOf.f k a1).bind fun b => (spec_Mix.f a1).bind fun m => (spec_Add.f (l0_4.getD b.toNat 0) 1).bind fun hb => (spec_RankOf.f k a1).bind fun rk => (spec_l1Max.f (l0_5.getD (m.toNat % 8) 0) rk).bind fun rv => (spec_Add.f ((l0_6.getD 0 []).getD ((0 + m.toNat) % 4) 0) 1).bind fun z0 => (spec_Add.f ((l0_6.getD 1 []).getD ((1 + m.toNat) % 4) 0) 1).bind fun z1 => if l0_4.length = 8 ∧ l0_5.length = 8 ∧ l0_6.length = 2 ∧ (l0_6.getD 0 []).length = 4 ∧ (l0_6.getD 1 []).length = 4 ∧ 0 ≤ b ∧ b < 8 ∧ 0 ≤ m ∧ m < 65536 then some (c1, s1, (if a0_0 = 0 then a1 else m0), m3, l0_4.set b.toNat hb, l0_5.set (m.toNat % 8) rv, [(l0_6.getD 0 []).set ((0 + m.toNat) % 4) z0, (l0_6.getD 1 []).set ((1 + m.toNat) % 4) z1], true) else none
theorem spec_Insert.mono_g : ∀ a0_0 a0_1 a0_2 a0_3 l0_4 l0_5 l0_6 a1 k, LeO (spec_Insert.g k a0_0 a0_1 a0_2 a0_3 l0_4 l0_5 l0_6 a1) (spec_Insert.g (k + 1) a0_0 a0_1 a0_2 a0_3 l0_4 l0_5 l0_6 a1) := by
 intro a0_0 a0_1 a0_2 a0_3 l0_4 l0_5 l0_6 a1 k
 unfold spec_Insert.g
 repeat' first
  | (with_reducible exact spec_BucketOf.mono _ _)
  | (with_reducible exact spec_RankOf.mono _ _)
  | (with_reducible exact LeO.refl _)
  | (with_reducible refine LeO.bind ?_ (fun _ => ?_))
def spec_Insert.f (k : Nat) (a0_0 : Int) (a0_1 : Int) (a0_2 : Int) (a0_3 : Int) (l0_4 : List Int) (l0_5 : List Int) (l0_6 : List (List Int)) (a1 : Int) : Option (Int × Int × Int × Int × List Int × List Int × (List (List Int)) × Bool) := (spec_l3Copy.f k a0_0 a0_1 a0_2 a0_3 l0_4 l0_5 l0_6).bind fun t => if t.1 = a0_0 ∧ t.2.1 = a0_1 ∧ t.2.2.1 = a0_2 ∧ t.2.2.2.1 = a0_3 ∧ t.2.2.2.2.1 = l0_4 ∧ t.2.2.2.2.2.1 = l0_5 ∧ t.2.2.2.2.2.2 = l0_6 then ((spec_SketchOk.f k a0_0 a0_1 a0_2 a0_3 l0_4 l0_5 l0_6).bind fun t1 => if t1 = true then ((spec_l1In.f a1 0 1000000).bind fun t2 => if t2 = true then spec_Insert.g k a0_0 a0_1 a0_2 a0_3 l0_4 l0_5 l0_6 a1 else some (a0_0, a0_1, a0_2, a0_3, l0_4, l0_5, l0_6, false)) else some (a0_0, a0_1, a0_2, a0_3, l0_4, l0_5, l0_6, false)) else none
theorem spec_Insert.mono : ∀ a0_0 a0_1 a0_2 a0_3 l0_4 l0_5 l0_6 a1 k, LeO (spec_Insert.f k a0_0 a0_1 a0_2 a0_3 l0_4 l0_5 l0_6 a1) (spec_Insert.f (k + 1) a0_0 a0_1 a0_2 a0_3 l0_4 l0_5 l0_6 a1) := by
 intro a0_0 a0_1 a0_2 a0_3 l0_4 l0_5 l0_6 a1 k
 unfold spec_Insert.f
 exact LeO.bind (spec_l3Copy.mono _ _ _ _ _ _ _ _) (fun _ => LeO.ite (LeO.bind (spec_SketchOk.mono _ _ _ _ _ _ _ _) (fun _ => LeO.ite (LeO.bind (LeO.refl _) (fun _ => LeO.ite (spec_Insert.mono_g _ _ _ _ _ _ _ _ _) (LeO.refl _))) (LeO.refl _))) (LeO.refl _))
theorem spec_Insert.calls (k : Nat) (a0_0 : Int) (a0_1 : Int) (a0_2 : Int) (a0_3 : Int) (A0_4 : Option Addr) (c0_4 : Nat) (l0_4 : List Int) (A0_5 : Option Addr) (c0_5 : Nat) (l0_5 : List Int) (A0_6 : Option Addr) (c0_6 : Nat) (l0_6 : List (List Int)) (a1 : Int) (r1 : Int) (r2 : Int) (r3 : Int) (r4 : Int) (r5 : List Int) (r6 : List Int) (r7 : List (List Int)) (r8 : Bool) (w : World) (hr0_4 : Kd.C (Kd.int .i64) w A0_4 l0_4.length l0_4) (hc0_4 : l0_4.length ≤ c0_4) (hr0_5 : Kd.C (Kd.int .i64) w A0_5 l0_5.length l0_5) (hc0_5 : l0_5.length ≤ c0_5) (hr0_6 : Kd.C (Kd.slice 3 (Kd.int .i64)) w A0_6 l0_6.length l0_6) (hc0_6 : l0_6.length ≤ c0_6) (h : spec_Insert.f k a0_0 a0_1 a0_2 a0_3 l0_4 l0_5 l0_6 a1 = some (r1, r2, r3, r4, r5, r6, r7, r8)) :
  Calls Try.prog 112 #[.agg #[.int .i64 a0_0, .int .i64 a0_1, .int .i64 a0_2, .int .i64 a0_3, .slice A0_4 l0_4.length c0_4, .slice A0_5 l0_5.length c0_5, .slice A0_6 l0_6.length c0_6], .int .i64 a1] w fun e w' => ∃ v4_ v5_ v6_ : Value, e = .returned (.tuple #[.agg #[.int .i64 r1, .int .i64 r2, .int .i64 r3, .int .i64 r4, v4_, v5_, v6_], .bool r8]) ∧ Kd.R (Kd.int .i64) 3 w' w.heap.size (fun k_ => some k_ ≠ (v5_ : Value).ownBlock) v4_ r5 ∧ Kd.R (Kd.int .i64) 3 w' w.heap.size (fun k_ => some k_ ≠ (v4_ : Value).ownBlock) v5_ r6 ∧ Kd.S (Kd.slice 3 (Kd.int .i64)) 24 w' w.heap.size (fun k_ => some k_ ≠ (v4_ : Value).ownBlock ∧ some k_ ≠ (v5_ : Value).ownBlock) v6_ r7 ∧ Below w.heap.size w w' := by
 have u : Rd w ⟨A0_4, l0_4.length, c0_4⟩ ⟨A0_5, l0_5.length, c0_5⟩ ⟨A0_6, l0_6.length, c0_6⟩ l0_4 l0_5 l0_6 := ⟨rfl, rfl, rfl, hc0_4, hc0_5, hc0_6, hr0_4, hr0_5, hr0_6⟩
 have key : Calls Try.prog 112 #[.agg #[.int .i64 a0_0, .int .i64 a0_1, .int .i64 a0_2, .int .i64 a0_3, .slice A0_4 l0_4.length c0_4, .slice A0_5 l0_5.length c0_5, .slice A0_6 l0_6.length c0_6], .int .i64 a1] w (SkOut w r1 r2 r3 r4 r5 r6 r7 r8) := by
  unfold spec_Insert.f at h
  obtain ⟨t, h3, h⟩ := Option.bind_eq_some_iff.mp h
  by_cases b4 : t.1 = a0_0 ∧ t.2.1 = a0_1 ∧ t.2.2.1 = a0_2 ∧ t.2.2.2.1 = a0_3 ∧ t.2.2.2.2.1 = l0_4 ∧ t.2.2.2.2.2.1 = l0_5 ∧ t.2.2.2.2.2.2 = l0_6
  ·rw [if_pos b4] at h
   obtain ⟨t0, t1, t2, t3, t4, t5, t6⟩ := t
   obtain ⟨d0, d1, d2, d3, d4, d5, d6⟩ := b4
   simp only at d0 d1 d2 d3 d4 d5 d6
   rw [d0, d1, d2, d3, d4, d5, d6] at h3
   clear d0 d1 d2 d3 d4 d5 d6
   obtain ⟨t1, h1, h⟩ := Option.bind_eq_some_iff.mp h
   by_cases b1 : t1 = true
   ·subst b1
    rw [if_pos rfl] at h;obtain ⟨t2, h2, h⟩ := Option.bind_eq_some_iff.mp h
    by_cases b2 : t2 = true
    ·subst b2
     rw [if_pos rfl] at h;unfold spec_Insert.g at h;obtain ⟨c1, g1, h⟩ := Option.bind_eq_some_iff.mp h;obtain ⟨s1, g2, h⟩ := Option.bind_eq_some_iff.mp h;obtain ⟨m0, gm, h⟩ := Option.bind_eq_some_iff.mp h;obtain ⟨m3, gx, h⟩ := Option.bind_eq_some_iff.mp h;obtain ⟨b, g3, h⟩ := Option.bind_eq_some_iff.mp h;obtain ⟨m, g4, h⟩ := Option.bind_eq_some_iff.mp h;obtain ⟨hb, g5, h⟩ := Option.bind_eq_some_iff.mp h;obtain ⟨rk, g6, h⟩ := Option.bind_eq_some_iff.mp h;obtain ⟨rv, gv, h⟩ := Option.bind_eq_some_iff.mp h;obtain ⟨z0, g7, h⟩ := Option.bind_eq_some_iff.mp h;obtain ⟨z1, g8, h⟩ := Option.bind_eq_some_iff.mp h
     by_cases b3 : l0_4.length = 8 ∧ l0_5.length = 8 ∧ l0_6.length = 2 ∧ (l0_6.getD 0 []).length = 4 ∧ (l0_6.getD 1 []).length = 4 ∧ 0 ≤ b ∧ b < 8 ∧ 0 ≤ m ∧ m < 65536
     ·rw [if_pos b3] at h
      obtain ⟨n1, n2, n3, n4, n5, n6, n7, n8, n9⟩ := b3;simp only [Option.some.injEq, Prod.mk.injEq] at h;obtain ⟨rfl, rfl, rfl, rfl, rfl, rfl, rfl, rfl⟩ := h;obtain ⟨b, rfl⟩ : ∃ n : Nat, b = (n : Int) := ⟨b.toNat, by omega⟩;obtain ⟨m, rfl⟩ : ∃ n : Nat, m = (n : Int) := ⟨m.toNat, by omega⟩;simp only [Int.toNat_natCast] at *;refine spec_Insert.yes k _ _ _ _ _ w u ⟨h3⟩ ⟨h1⟩ ⟨h2⟩ ⟨⟨n1, n2, n3⟩⟩ _ _ _ _ _ rk m0 b m ⟨g1⟩ ⟨g2⟩ ⟨?_⟩ ⟨gm⟩ ⟨gx⟩ ⟨g4⟩ ⟨by omega⟩ ⟨g3⟩ ⟨by omega⟩ _ ⟨rfl⟩ _ _ ⟨rfl⟩ ⟨gv⟩ ⟨g6⟩ _ ⟨rfl⟩ ⟨?_⟩ ⟨g5⟩
      ·by_cases e : a0_0 = 0
       ·exact .inl ⟨by simp [e], by rw [if_pos e], trivial⟩
       ·exact .inr ⟨by simp [e], by rw [if_neg e], trivial⟩
      ·intro i hi
       match i, hi with
       | 0, _ => exact ⟨z0, n4, g7, rfl⟩
       | 1, _ => exact ⟨z1, n5, g8, rfl⟩
     ·rw [if_neg b3] at h
      cases h
    ·rw [if_neg b2] at h
     simp only [Option.some.injEq, Prod.mk.injEq] at h;obtain ⟨rfl, rfl, rfl, rfl, rfl, rfl, rfl, rfl⟩ := h
     have : t2 = false := by simpa using b2
     subst this;exact spec_Insert.no2 k _ _ _ _ _ w u ⟨h3⟩ ⟨h1⟩ ⟨h2⟩
   ·rw [if_neg b1] at h
    simp only [Option.some.injEq, Prod.mk.injEq] at h;obtain ⟨rfl, rfl, rfl, rfl, rfl, rfl, rfl, rfl⟩ := h
    have : t1 = false := by simpa using b1
    subst this;exact spec_Insert.no1 k _ _ _ _ _ w u ⟨h3⟩ ⟨h1⟩
  ·rw [if_neg b4] at h
   cases h
 refine key.mono ?_
 rintro e w' ⟨x, y, z, a, b, rfl, hs, hm, hb⟩
 obtain ⟨k1, k2, k3⟩ := hs.kd hm.1
 exact ⟨_, _, _, rfl, k1, k2, k3, hb⟩

end Go.Proofs.Ytdciagkholijlaa.PFnItems
