-- Written by this session's changed copy of the kit's printer (wip/patch_print.py): not the kit's own print.
import Derived.Test.YtdciagkholijlaaPFnEntriesx0
import Derived.Test.YtdciagkholijlaaPFnEntriesx4
import Derived.Test.YtdciagkholijlaaPFnEntriesx5
import Derived.Test.YtdciagkholijlaaPFnEntriesx6
import Derived.Test.YtdciagkholijlaaPFnEntriesx7
namespace Go.Proofs.Ytdciagkholijlaa.PFnEntries
open Go.RowKit Go.Proofs.YtdciagkholijlaaW.PrintWords Go.Proofs.YtdciagkholijlaaW.PrintLast Go.Proofs.YtdciagkholijlaaW.PrintMore
attribute [local go_sem] max2_int min2_int max_two min_two max_three min_three max_four min_four   -- for this text's walks alone
set_option linter.unusedVariables false
set_option linter.unusedSimpArgs false
set_option maxHeartbeats 16000000
set_option maxRecDepth 100000
theorem Z8x0 {p : Prop} (h : p := by have := Z_2.out;have := Z_6.out;have := Z_9.out;have := Z_13.out;have := Z_19.out;have := Z_26.out;have := Z_32.out;omega) : p := h
theorem Z8x1 {p : Prop} (h : p := by have := Z_2.out;have := Z_6.out;have := Z_9.out;have := Z_13.out;have := Z_19.out;have := Z_26.out;omega) : p := h

theorem spec_l1Min.still (a b r : Int) (w : World) (h : spec_l1Min.f a b = some r) : Calls Try.prog 108 #[vi a,vi b] w fun e w' => e = .returned (vi r) ∧ w' = w := by
 unfold spec_l1Min.f at h
 by_cases c : a < b
 ·rw [if_pos c] at h
  obtain rfl := Option.some.inj h
  have c1 : decide (a < b) = true := decide_eq_true c
  clear h c
  go_enter Try.func108,Try.ntmps108
  go_wp2
  go_ret
  exact ⟨rfl,rfl⟩
 ·rw [if_neg c] at h
  obtain rfl := Option.some.inj h
  have c1 : decide (a < b) = false := decide_eq_false c
  clear h c
  go_enter Try.func108,Try.ntmps108
  go_wp2
  go_ret
  exact ⟨rfl,rfl⟩
theorem spec_l1Max.still (a b r : Int) (w : World) (h : spec_l1Max.f a b = some r) : Calls Try.prog 109 #[vi a,vi b] w fun e w' => e = .returned (vi r) ∧ w' = w := by
 unfold spec_l1Max.f at h
 by_cases c : a > b
 ·rw [if_pos c] at h
  obtain rfl := Option.some.inj h
  have c1 : decide (b < a) = true := decide_eq_true c
  clear h c
  go_enter Try.func109,Try.ntmps109
  go_wp2
  go_ret
  exact ⟨rfl,rfl⟩
 ·rw [if_neg c] at h
  obtain rfl := Option.some.inj h
  have c1 : decide (b < a) = false := decide_eq_false c
  clear h c
  go_enter Try.func109,Try.ntmps109
  go_wp2
  go_ret
  exact ⟨rfl,rfl⟩
theorem spec_l2Clip.still (a b r : Int) (w : World) (h : spec_l2Clip.f a b = some r) : Calls Try.prog 117 #[vi a,vi b] w fun e w' => e = .returned (vi r) ∧ w' = w := by
 obtain ⟨t,h1,h2⟩ := Option.bind_eq_some_iff.mp h
 obtain ⟨t',h3,h4⟩ := Option.bind_eq_some_iff.mp h2
 obtain rfl := Option.some.inj h4
 have H1 := mkA h1
 have H3 := mkA h3
 clear h h1 h2 h3 h4
 go_enter Try.func117,Try.ntmps117
 go_wp2_with fail
 refine (spec_l1Min.still _ _ _ _ H1.out).mono ?_
 rintro e w' ⟨rfl,rfl⟩
 go_wp2_with fail
 refine (spec_l1Max.still _ _ _ _ H3.out).mono ?_
 rintro e w' ⟨rfl,rfl⟩
 go_wp2
 go_ret
 exact ⟨rfl,rfl⟩
theorem spec_Add.still (a b r : Int) (w : World) (h : spec_Add.f a b = some r) : Calls Try.prog 107 #[vi a,vi b] w fun e w' => e = .returned (vi r) ∧ w' = w := by
 obtain ⟨t,h1,h2⟩ := Option.bind_eq_some_iff.mp h
 obtain ⟨t',h3,h4⟩ := Option.bind_eq_some_iff.mp h2
 obtain ⟨t'',h5,h6⟩ := Option.bind_eq_some_iff.mp h4
 obtain rfl := Option.some.inj h6
 have H1 := mkA h1
 have H3 := mkA h3
 have H5 := mkA h5
 clear h h1 h2 h3 h4 h5 h6
 go_enter Try.func107,Try.ntmps107
 go_wp2_with fail
 refine (spec_l2Clip.still _ _ _ _ H1.out).mono ?_
 rintro e w' ⟨rfl,rfl⟩
 go_wp2_with fail
 refine (spec_l2Clip.still _ _ _ _ H3.out).mono ?_
 rintro e w' ⟨rfl,rfl⟩
 go_wp2_with fail
 refine (spec_l1Min.still _ _ _ _ H5.out).mono ?_
 rintro e w' ⟨rfl,rfl⟩
 go_wp2
 go_ret
 exact ⟨rfl,rfl⟩
theorem spec_Mix.still (a0 r : Int) (w : World) (h : spec_Mix.f a0 = some r) : Calls Try.prog 119 #[vi a0] w fun e w' => e = .returned (vi r) ∧ w' = w := by
 obtain ⟨t,h1,h2⟩ := Option.bind_eq_some_iff.mp h
 obtain rfl := Option.some.inj h2
 have H1 := mkA h1
 clear h h1 h2
 go_enter Try.func119,Try.ntmps119
 go_wp2_with fail
 refine (spec_l2Clip.still _ _ _ _ H1.out).mono ?_
 rintro e w' ⟨rfl,rfl⟩
 go_wp2
 go_ret
 exact ⟨by first | rfl | (simp;done) | (simp only [IntKind.wrap_i64,wrap64];done) | (simp only [IntKind.wrap_i64,wrap64];rfl),rfl⟩
theorem spec_BucketOf.still (k : Nat) (a0 r : Int) (w : World) (h : spec_BucketOf.f k a0 = some r) : Calls Try.prog 118 #[vi a0] w fun e w' => e = .returned (vi r) ∧ w' = w := by
 obtain ⟨t,h1,h2⟩ := Option.bind_eq_some_iff.mp h
 have H1 := mkA h1
 have H' := mkA h2
 clear h h1 h2
 go_enter Try.func118,Try.ntmps118
 go_wp2_with fail
 refine (spec_l2Clip.still _ _ _ _ H1.out).mono ?_
 rintro e w' ⟨rfl,rfl⟩
 go_wp2
 go_loopg [3,4] k (fun kq v3 v4 wr => ∃ (x y : Int),v3 = vi x ∧ v4 = vi y ∧ Aside0 (spec_BucketOf.l0 kq x y = some r) ∧ Aside0 (kq ≤ k) ∧ wr = w')
 case atStart => exact ⟨t,0,rfl,rfl,H',⟨Nat.le_refl _⟩,rfl⟩
 case round =>
  clear H'
  obtain ⟨x,y,rfl,rfl,HA,HK,rfl⟩ := hrel
  cases gk with
  | zero => exact absurd HA.out (by simp [spec_BucketOf.l0])
  | succ k1 =>
   have H := HA.out
   clear HA
   simp only [spec_BucketOf.l0] at H
   by_cases c : x > 0
   ·rw [if_pos c] at H
    have c1 : decide (0 < x) = true := decide_eq_true c;clear c;have H' := mkA H;clear H
    go_wp2
    go_roundg k1
    case measure => have := HK.out;omega
    case rel => exact ⟨wrap64 (Int.tdiv x 2),wrap64 (y + 1),by first | rfl | (simp;done),by first | rfl | (simp;done),H',⟨by have := HK.out;omega⟩,rfl⟩
   ·rw [if_neg c] at H
    have c1 : decide (0 < x) = false := decide_eq_false c;clear c;obtain rfl := Option.some.inj H;clear H
    go_wp2
    go_ret
    exact ⟨by first | rfl | (simp;done),rfl⟩
theorem spec_RankOf.still (k : Nat) (a0 r : Int) (w : World) (h : spec_RankOf.f k a0 = some r) : Calls Try.prog 120 #[vi a0] w fun e w' => e = .returned (vi r) ∧ w' = w := by
 obtain ⟨t,h1,h2⟩ := Option.bind_eq_some_iff.mp h
 have H1 := mkA h1
 clear h h1
 by_cases c : t = 0
 ·rw [if_pos c] at h2
  obtain rfl := Option.some.inj h2
  subst c
  clear h2
  go_enter Try.func120,Try.ntmps120
  go_wp2_with fail
  refine (spec_Mix.still _ _ _ H1.out).mono ?_
  rintro e w' ⟨rfl,rfl⟩
  go_wp2
  go_ret
  exact ⟨rfl,rfl⟩
 ·rw [if_neg c] at h2
  have H' := mkA h2
  have c1 : (t == 0) = false := beq_eq_false_iff_ne.mpr c
  clear h2
  go_enter Try.func120,Try.ntmps120
  go_wp2_with fail
  refine (spec_Mix.still _ _ _ H1.out).mono ?_
  rintro e w' ⟨rfl,rfl⟩
  go_wp2
  go_loopg [3,4] k (fun kq v3 v4 wr => ∃ (x y : Int),v3 = vi x ∧ v4 = vi y ∧ Aside0 (spec_RankOf.l0 kq x y = some r) ∧ Aside0 (kq ≤ k) ∧ wr = w')
  case atStart => exact ⟨t,1,rfl,rfl,H',⟨Nat.le_refl _⟩,rfl⟩
  case round =>
   clear H' c c1
   obtain ⟨x,y,rfl,rfl,HA,HK,rfl⟩ := hrel
   cases gk with
   | zero => exact absurd HA.out (by simp [spec_RankOf.l0])
   | succ k1 =>
    have H := HA.out;clear HA;simp only [spec_RankOf.l0] at H
    by_cases c : Int.tmod x 2 = 0
    ·rw [if_pos c] at H
     have c1 : (Int.tmod x 2 == 0) = true := beq_iff_eq.mpr c;clear c;have H' := mkA H;clear H
     go_wp2
     go_roundg k1
     case measure => have := HK.out;omega
     case rel => exact ⟨wrap64 (Int.tdiv x 2),wrap64 (y + 1),by first | rfl | (simp;done),by first | rfl | (simp;done),H',⟨by have := HK.out;omega⟩,rfl⟩
    ·rw [if_neg c] at H
     have c1 : (Int.tmod x 2 == 0) = false := beq_eq_false_iff_ne.mpr c;obtain rfl := Option.some.inj H;clear H
     go_wp2
     go_ret
     exact ⟨by first | rfl | (simp;done),rfl⟩
theorem spec_Insert.ok (k : Nat) {w : World} {x y z : Sl} {h r : List Int} {R : List (List Int)} (c s lo hi : Int) (t : Bool) (u : Rd w x y z h r R) (he : spec_SketchOk.f k c s lo hi h r R = some t) :
  Calls Try.prog 73 #[.agg #[vi c,vi s,vi lo,vi hi,.slice x.A x.n x.c,.slice y.A y.n y.c,.slice z.A z.n z.c]] w fun e w' => e = .returned (.bool t) ∧ Below w.heap.size w w' := by
 rw [u.e4,u.e5,u.e6]
 exact (spec_SketchOk.calls k c s lo hi _ _ h _ _ r _ _ R t w u.C4 u.l4 u.C5 u.l5 u.C6 u.l6 he).mono fun e w' ⟨h1,h2⟩ => ⟨h1,by first | exact h2 | exact h2.below⟩
theorem spec_Insert.cp (k : Nat) {w : World} {x y z : Sl} {h r : List Int} {R : List (List Int)} (c s lo hi : Int) (u : Rd w x y z h r R) (he : spec_l3Copy.f k c s lo hi h r R = some (c,s,lo,hi,h,r,R)) :
  Calls Try.prog 38 #[.agg #[vi c,vi s,vi lo,vi hi,.slice x.A x.n x.c,.slice y.A y.n y.c,.slice z.A z.n z.c]] w fun e w' => ∃ (x' y' z' : Sl) (a b : Nat),e = .returned (.agg #[vi c,vi s,vi lo,vi hi,.slice x'.A x'.n x'.c,.slice y'.A y'.n y'.c,.slice z'.A z'.n z'.c]) ∧ Sk w' a b x' y' z' h r R ∧ Made w w' a b ∧ Below w.heap.size w w' := by
 rw [u.e4,u.e5,u.e6]
 refine (spec_l3Copy.calls k c s lo hi _ _ h _ _ r _ _ R c s lo hi h r R w u.C4 u.l4 u.C5 u.l5 u.C6 u.l6 he).mono ?_
 rintro e w' ⟨v4,v5,v6,rfl,h4,h5,h6,hb⟩
 obtain ⟨x',y',z',rfl,rfl,rfl,hs⟩ := Sk.of h4 h5 h6 (fun _ hk => hk) (fun _ hk => hk)
 exact ⟨x',y',z',_,_,rfl,hs,⟨Nat.le_refl _,hb.size,Nat.le_refl _⟩,hb⟩
theorem spec_Insert.no1 (k : Nat) (c s lo hi v : Int) {A4 A5 A6 : Option Addr} {c4 c5 c6 : Nat} {h r : List Int} {R : List (List Int)} (w : World) (u : Rd w ⟨A4,h.length,c4⟩ ⟨A5,r.length,c5⟩ ⟨A6,R.length,c6⟩ h r R) (K3 : Aside0 (spec_l3Copy.f k c s lo hi h r R = some (c,s,lo,hi,h,r,R)))
  (K1 : Aside0 (spec_SketchOk.f k c s lo hi h r R = some false)) :
  Calls Try.prog 112 #[.agg #[vi c,vi s,vi lo,vi hi,.slice A4 h.length c4,.slice A5 r.length c5,.slice A6 R.length c6],vi v] w (SkOut w c s lo hi h r R false) := by
 have U := mkA u
 clear u
 go_enter Try.func112,Try.ntmps112
 have HB_1 := mkA ((below_alloc (Below.refl _ w) (.cells #[vi c,vi s,vi lo,vi hi,.slice A4 h.length c4,.slice A5 r.length c5,.slice A6 R.length c6] 27)))
 have Z_2 := mkA (show (w.alloc (.cells #[vi c,vi s,vi lo,vi hi,.slice A4 h.length c4,.slice A5 r.length c5,.slice A6 R.length c6] 27)).heap.size = w.heap.size + 1 by simp)
 have bxa_3 := mkA (Bx.new w 27 #[vi c,vi s,vi lo,vi hi,.slice A4 h.length c4,.slice A5 r.length c5,.slice A6 R.length c6])
 have bxa_4 := mkA (bxa_3.out.below (below_alloc (Below.refl _ (w.alloc (.cells #[vi c,vi s,vi lo,vi hi,.slice A4 h.length c4,.slice A5 r.length c5,.slice A6 R.length c6] 27))) (.cells #[vi 0,vi 0,vi 0,vi 0,.slice none 0 0,.slice none 0 0,.slice none 0 0] 27)))
 have HB_5 := mkA (below_step HB_1.out (below_alloc (Below.refl _ (w.alloc (.cells #[vi c,vi s,vi lo,vi hi,.slice A4 h.length c4,.slice A5 r.length c5,.slice A6 R.length c6] 27))) (.cells #[vi 0,vi 0,vi 0,vi 0,.slice none 0 0,.slice none 0 0,.slice none 0 0] 27)))
 have Z_6 := mkA (show ((w.alloc (.cells #[vi c,vi s,vi lo,vi hi,.slice A4 h.length c4,.slice A5 r.length c5,.slice A6 R.length c6] 27)).alloc (.cells #[vi 0,vi 0,vi 0,vi 0,.slice none 0 0,.slice none 0 0,.slice none 0 0] 27)).heap.size = w.heap.size + 1 + 1 by simp)
 have bxo_7 := mkA ((show Bx ((w.alloc (.cells #[vi c,vi s,vi lo,vi hi,.slice A4 h.length c4,.slice A5 r.length c5,.slice A6 R.length c6] 27)).alloc (.cells #[vi 0,vi 0,vi 0,vi 0,.slice none 0 0,.slice none 0 0,.slice none 0 0] 27)) (w.heap.size + 1) 27 #[vi 0,vi 0,vi 0,vi 0,.slice none 0 0,.slice none 0 0,.slice none 0 0] from (show (w.alloc (.cells #[vi c,vi s,vi lo,vi hi,.slice A4 h.length c4,.slice A5 r.length c5,.slice A6 R.length c6] 27)).heap.size = w.heap.size + 1 by simp) ▸ Bx.new (w.alloc (.cells #[vi c,vi s,vi lo,vi hi,.slice A4 h.length c4,.slice A5 r.length c5,.slice A6 R.length c6] 27)) 27 #[vi 0,vi 0,vi 0,vi 0,.slice none 0 0,.slice none 0 0,.slice none 0 0]))
 clear bxa_3 HB_1
 go_wp2_with fail
 refine (spec_Insert.cp k c s lo hi (U.out.below HB_5.out) K3.out).mono ?_
 rintro e w1 ⟨x1,y1,z1,a1,b1,rfl,hs,hm,hb⟩
 have S_8 := mkA hs
 clear hs
 have Z_9 := mkA hm
 clear hm
 unfold Made at Z_9
 have bxa_10 := mkA (bxa_4.out.below hb)
 have bxo_11 := mkA (bxo_7.out.below hb)
 have HB_12 := mkA (below_step HB_5.out hb)
 have Z_13 := mkA (hb.size)
 clear bxa_4 bxo_7 HB_5 hb
 obtain ⟨bxa13c0,bxa13c1,bxa13c2,bxa13c3,bxa13c4,bxa13c5,bxa13c6⟩ := bxa_10.out.cellsA
 go_wp2_with fail
 clear bxa13c0 bxa13c1 bxa13c2 bxa13c3 bxa13c4 bxa13c5 bxa13c6
 have bxa_15 := mkA (bxa_10.out.below (below_alloc (Below.refl _ w1) (.cells #[vi c,vi s,vi lo,vi hi,.slice x1.A x1.n x1.c,.slice y1.A y1.n y1.c,.slice z1.A z1.n z1.c] 27)))
 have bxo_16 := mkA (bxo_11.out.below (below_alloc (Below.refl _ w1) (.cells #[vi c,vi s,vi lo,vi hi,.slice x1.A x1.n x1.c,.slice y1.A y1.n y1.c,.slice z1.A z1.n z1.c] 27)))
 have S_17 := mkA (S_8.out.below (below_alloc (Below.refl _ w1) (.cells #[vi c,vi s,vi lo,vi hi,.slice x1.A x1.n x1.c,.slice y1.A y1.n y1.c,.slice z1.A z1.n z1.c] 27)))
 have HB_18 := mkA (below_step HB_12.out (below_alloc (Below.refl _ w1) (.cells #[vi c,vi s,vi lo,vi hi,.slice x1.A x1.n x1.c,.slice y1.A y1.n y1.c,.slice z1.A z1.n z1.c] 27)))
 have Z_19 := mkA (show (w1.alloc (.cells #[vi c,vi s,vi lo,vi hi,.slice x1.A x1.n x1.c,.slice y1.A y1.n y1.c,.slice z1.A z1.n z1.c] 27)).heap.size = w1.heap.size + 1 by simp)
 have ae := mkA (Bx.new w1 27 #[vi c,vi s,vi lo,vi hi,.slice x1.A x1.n x1.c,.slice y1.A y1.n y1.c,.slice z1.A z1.n z1.c])
 clear bxa_10 bxo_11 S_8 HB_12
 refine (spec_Insert.ok k c s lo hi false (U.out.below HB_18.out) K1.out).mono ?_
 rintro e w2 ⟨rfl,hb⟩
 have bxa_21 := mkA (bxa_15.out.below hb)
 have bxo_22 := mkA (bxo_16.out.below hb)
 have S_23 := mkA (S_17.out.below hb)
 have af := mkA (ae.out.below hb)
 have HB_25 := mkA (below_step HB_18.out hb)
 have Z_26 := mkA (hb.size)
 clear bxa_15 bxo_16 S_17 ae HB_18 hb
 obtain ⟨bxo26c0,bxo26c1,bxo26c2,bxo26c3,bxo26c4,bxo26c5,bxo26c6⟩ := bxo_22.out.cells
 obtain ⟨bx627c0,bx627c1,bx627c2,bx627c3,bx627c4,bx627c5,bx627c6⟩ := af.out.cells
 have aI := bxo_22.out.fz
 go_wp2
 refine bodyPost_ret (results_ct rfl _ _ (w.heap.size + 1) 27 #[vi c,vi s,vi lo,vi hi,.slice x1.A x1.n x1.c,.slice y1.A y1.n y1.c,.slice z1.A z1.n z1.c] (0,0) _ rfl (bxo_22.out.fill _ _ _ _ _ _ _).1 Try.underlying27 rfl (by kernel_rfl)) rfl ?_
 have k1 := (bxo_22.out.fill (vi c) (vi s) (vi lo) (vi hi) (.slice x1.A x1.n x1.c) (.slice y1.A y1.n y1.c) (.slice z1.A z1.n z1.c)).2
 exact ⟨x1,y1,z1,a1,b1,rfl,S_23.out.kp k1 (.inl Z8x1),⟨Z8x1,Z8x1,Nat.le_trans Z8x1 k1.kept.1⟩,below_kp HB_25.out k1 (by omega) HB_25.out.size⟩
theorem spec_Insert.no2 (k : Nat) (c s lo hi v : Int) {A4 A5 A6 : Option Addr} {c4 c5 c6 : Nat} {h r : List Int} {R : List (List Int)} (w : World) (u : Rd w ⟨A4,h.length,c4⟩ ⟨A5,r.length,c5⟩ ⟨A6,R.length,c6⟩ h r R) (K3 : Aside0 (spec_l3Copy.f k c s lo hi h r R = some (c,s,lo,hi,h,r,R)))
  (K1 : Aside0 (spec_SketchOk.f k c s lo hi h r R = some true)) (KW : Aside0 (spec_l1In.f v 0 1000000 = some false)) :
  Calls Try.prog 112 #[.agg #[vi c,vi s,vi lo,vi hi,.slice A4 h.length c4,.slice A5 r.length c5,.slice A6 R.length c6],vi v] w (SkOut w c s lo hi h r R false) := by
 have U := mkA u
 clear u
 go_enter Try.func112,Try.ntmps112
 have HB_1 := mkA ((below_alloc (Below.refl _ w) (.cells #[vi c,vi s,vi lo,vi hi,.slice A4 h.length c4,.slice A5 r.length c5,.slice A6 R.length c6] 27)))
 have Z_2 := mkA (show (w.alloc (.cells #[vi c,vi s,vi lo,vi hi,.slice A4 h.length c4,.slice A5 r.length c5,.slice A6 R.length c6] 27)).heap.size = w.heap.size + 1 by simp)
 have bxa_3 := mkA (Bx.new w 27 #[vi c,vi s,vi lo,vi hi,.slice A4 h.length c4,.slice A5 r.length c5,.slice A6 R.length c6])
 have bxa_4 := mkA (bxa_3.out.below (below_alloc (Below.refl _ (w.alloc (.cells #[vi c,vi s,vi lo,vi hi,.slice A4 h.length c4,.slice A5 r.length c5,.slice A6 R.length c6] 27))) (.cells #[vi 0,vi 0,vi 0,vi 0,.slice none 0 0,.slice none 0 0,.slice none 0 0] 27)))
 have HB_5 := mkA (below_step HB_1.out (below_alloc (Below.refl _ (w.alloc (.cells #[vi c,vi s,vi lo,vi hi,.slice A4 h.length c4,.slice A5 r.length c5,.slice A6 R.length c6] 27))) (.cells #[vi 0,vi 0,vi 0,vi 0,.slice none 0 0,.slice none 0 0,.slice none 0 0] 27)))
 have Z_6 := mkA (show ((w.alloc (.cells #[vi c,vi s,vi lo,vi hi,.slice A4 h.length c4,.slice A5 r.length c5,.slice A6 R.length c6] 27)).alloc (.cells #[vi 0,vi 0,vi 0,vi 0,.slice none 0 0,.slice none 0 0,.slice none 0 0] 27)).heap.size = w.heap.size + 1 + 1 by simp)
 have bxo_7 := mkA ((show Bx ((w.alloc (.cells #[vi c,vi s,vi lo,vi hi,.slice A4 h.length c4,.slice A5 r.length c5,.slice A6 R.length c6] 27)).alloc (.cells #[vi 0,vi 0,vi 0,vi 0,.slice none 0 0,.slice none 0 0,.slice none 0 0] 27)) (w.heap.size + 1) 27 #[vi 0,vi 0,vi 0,vi 0,.slice none 0 0,.slice none 0 0,.slice none 0 0] from (show (w.alloc (.cells #[vi c,vi s,vi lo,vi hi,.slice A4 h.length c4,.slice A5 r.length c5,.slice A6 R.length c6] 27)).heap.size = w.heap.size + 1 by simp) ▸ Bx.new (w.alloc (.cells #[vi c,vi s,vi lo,vi hi,.slice A4 h.length c4,.slice A5 r.length c5,.slice A6 R.length c6] 27)) 27 #[vi 0,vi 0,vi 0,vi 0,.slice none 0 0,.slice none 0 0,.slice none 0 0]))
 clear bxa_3 HB_1
 go_wp2_with fail
 refine (spec_Insert.cp k c s lo hi (U.out.below HB_5.out) K3.out).mono ?_
 rintro e w1 ⟨x1,y1,z1,a1,b1,rfl,hs,hm,hb⟩
 have S_8 := mkA hs
 clear hs
 have Z_9 := mkA hm
 clear hm
 unfold Made at Z_9
 have bxa_10 := mkA (bxa_4.out.below hb)
 have bxo_11 := mkA (bxo_7.out.below hb)
 have HB_12 := mkA (below_step HB_5.out hb)
 have Z_13 := mkA (hb.size)
 clear bxa_4 bxo_7 HB_5 hb
 obtain ⟨bxa13c0,bxa13c1,bxa13c2,bxa13c3,bxa13c4,bxa13c5,bxa13c6⟩ := bxa_10.out.cellsA
 go_wp2_with fail
 clear bxa13c0 bxa13c1 bxa13c2 bxa13c3 bxa13c4 bxa13c5 bxa13c6
 have bxa_15 := mkA (bxa_10.out.below (below_alloc (Below.refl _ w1) (.cells #[vi c,vi s,vi lo,vi hi,.slice x1.A x1.n x1.c,.slice y1.A y1.n y1.c,.slice z1.A z1.n z1.c] 27)))
 have bxo_16 := mkA (bxo_11.out.below (below_alloc (Below.refl _ w1) (.cells #[vi c,vi s,vi lo,vi hi,.slice x1.A x1.n x1.c,.slice y1.A y1.n y1.c,.slice z1.A z1.n z1.c] 27)))
 have S_17 := mkA (S_8.out.below (below_alloc (Below.refl _ w1) (.cells #[vi c,vi s,vi lo,vi hi,.slice x1.A x1.n x1.c,.slice y1.A y1.n y1.c,.slice z1.A z1.n z1.c] 27)))
 have HB_18 := mkA (below_step HB_12.out (below_alloc (Below.refl _ w1) (.cells #[vi c,vi s,vi lo,vi hi,.slice x1.A x1.n x1.c,.slice y1.A y1.n y1.c,.slice z1.A z1.n z1.c] 27)))
 have Z_19 := mkA (show (w1.alloc (.cells #[vi c,vi s,vi lo,vi hi,.slice x1.A x1.n x1.c,.slice y1.A y1.n y1.c,.slice z1.A z1.n z1.c] 27)).heap.size = w1.heap.size + 1 by simp)
 have ae := mkA (Bx.new w1 27 #[vi c,vi s,vi lo,vi hi,.slice x1.A x1.n x1.c,.slice y1.A y1.n y1.c,.slice z1.A z1.n z1.c])
 clear bxa_10 bxo_11 S_8 HB_12
 refine (spec_Insert.ok k c s lo hi true (U.out.below HB_18.out) K1.out).mono ?_
 rintro e w2 ⟨rfl,hb⟩
 have bxa_21 := mkA (bxa_15.out.below hb)
 have bxo_22 := mkA (bxo_16.out.below hb)
 have S_23 := mkA (S_17.out.below hb)
 have af := mkA (ae.out.below hb)
 have HB_25 := mkA (below_step HB_18.out hb)
 have Z_26 := mkA (hb.size)
 clear bxa_15 bxo_16 S_17 ae HB_18 hb
 go_wp2_with fail
 refine (spec_l1In.calls v 0 1000000 false _ KW.out).mono ?_
 rintro e w3 ⟨rfl,hd⟩
 have hb := hd.below
 clear hd
 have bxa_27 := mkA (bxa_21.out.below hb)
 have bxo_28 := mkA (bxo_22.out.below hb)
 have S_29 := mkA (S_23.out.below hb)
 have ak := mkA (af.out.below hb)
 have HB_31 := mkA (below_step HB_25.out hb)
 have Z_32 := mkA (hb.size)
 clear bxa_21 bxo_22 S_23 af HB_25 hb
 obtain ⟨bxo32c0,bxo32c1,bxo32c2,bxo32c3,bxo32c4,bxo32c5,bxo32c6⟩ := bxo_28.out.cells
 obtain ⟨bx633c0,bx633c1,bx633c2,bx633c3,bx633c4,bx633c5,bx633c6⟩ := ak.out.cells
 have aJ := bxo_28.out.fz
 go_wp2
 refine bodyPost_ret (results_ct rfl _ _ (w.heap.size + 1) 27 #[vi c,vi s,vi lo,vi hi,.slice x1.A x1.n x1.c,.slice y1.A y1.n y1.c,.slice z1.A z1.n z1.c] (0,0) _ rfl (bxo_28.out.fill _ _ _ _ _ _ _).1 Try.underlying27 rfl (by kernel_rfl)) rfl ?_
 have k1 := (bxo_28.out.fill (vi c) (vi s) (vi lo) (vi hi) (.slice x1.A x1.n x1.c) (.slice y1.A y1.n y1.c) (.slice z1.A z1.n z1.c)).2
 exact ⟨x1,y1,z1,a1,b1,rfl,S_29.out.kp k1 (.inl Z8x0),⟨Z8x0,Z8x0,Nat.le_trans Z8x0 k1.kept.1⟩,below_kp HB_31.out k1 (by omega) HB_31.out.size⟩
theorem spec_Insert.yes (k : Nat) (c s lo hi v : Int) {A4 A5 A6 : Option Addr} {c4 c5 c6 : Nat} {h r : List Int} {R : List (List Int)} (w : World) (u : Rd w ⟨A4,h.length,c4⟩ ⟨A5,r.length,c5⟩ ⟨A6,R.length,c6⟩ h r R) (K3 : Aside0 (spec_l3Copy.f k c s lo hi h r R = some (c,s,lo,hi,h,r,R)))
  (K1 : Aside0 (spec_SketchOk.f k c s lo hi h r R = some true)) (KW : Aside0 (spec_l1In.f v 0 1000000 = some true)) (L : Aside0 (h.length = 8 ∧ r.length = 8 ∧ R.length = 2)) (c1 s1 m2 m3 av rk m0 : Int) (b mm : Nat) (aK : Aside0 (spec_Add.f c 1 = some c1)) (aL : Aside0 (spec_Add.f s v = some s1))
  (HQ : Aside0 (((c == 0) = true ∧ m2 = v ∧ True) ∨ ((c == 0) = false ∧ m2 = m0 ∧ True))) (QM : Aside0 (spec_l1Min.f lo v = some m0)) (QX : Aside0 (spec_l1Max.f hi v = some m3)) (MK : Aside0 (spec_Mix.f v = some (mm : Int))) (MB : Aside0 (mm < 65536)) (BK : Aside0 (spec_BucketOf.f k v = some (b : Int))) (HBb : Aside0 (b < 8)) (v2 : Int) (V2 : Aside0 (h.getD b 0 = v2))
  (v3 rv : Int) (V3 : Aside0 (r.getD (mm % 8) 0 = v3)) (RZ : Aside0 (spec_l1Max.f v3 rk = some rv)) (RK : Aside0 (spec_RankOf.f k v = some rk)) (WZ : List (List Int)) (LZ : Aside0 (WZ.length = 2)) (AW : Aside0 (∀ i,i < 2 → ∃ z,(R.getD i []).length = 4 ∧ spec_Add.f ((R.getD i []).getD ((i + mm) % 4) 0) 1 = some z ∧ WZ.getD i [] = (R.getD i []).set ((i + mm) % 4) z)) (aM : Aside0 (spec_Add.f v2 1 = some av)) :
  Calls Try.prog 112 #[.agg #[vi c,vi s,vi lo,vi hi,.slice A4 h.length c4,.slice A5 r.length c5,.slice A6 R.length c6],vi v] w (SkOut w c1 s1 m2 m3 (h.set b av) (r.set (mm % 8) rv) WZ true) := by
 have U := mkA u
 clear u
 go_enter Try.func112,Try.ntmps112
 have HB_1 := mkA ((below_alloc (Below.refl _ w) (.cells #[vi c,vi s,vi lo,vi hi,.slice A4 h.length c4,.slice A5 r.length c5,.slice A6 R.length c6] 27)))
 have Z_2 := mkA (show (w.alloc (.cells #[vi c,vi s,vi lo,vi hi,.slice A4 h.length c4,.slice A5 r.length c5,.slice A6 R.length c6] 27)).heap.size = w.heap.size + 1 by simp)
 have bxa_3 := mkA (Bx.new w 27 #[vi c,vi s,vi lo,vi hi,.slice A4 h.length c4,.slice A5 r.length c5,.slice A6 R.length c6])
 have bxa_4 := mkA (bxa_3.out.below (below_alloc (Below.refl _ (w.alloc (.cells #[vi c,vi s,vi lo,vi hi,.slice A4 h.length c4,.slice A5 r.length c5,.slice A6 R.length c6] 27))) (.cells #[vi 0,vi 0,vi 0,vi 0,.slice none 0 0,.slice none 0 0,.slice none 0 0] 27)))
 have HB_5 := mkA (below_step HB_1.out (below_alloc (Below.refl _ (w.alloc (.cells #[vi c,vi s,vi lo,vi hi,.slice A4 h.length c4,.slice A5 r.length c5,.slice A6 R.length c6] 27))) (.cells #[vi 0,vi 0,vi 0,vi 0,.slice none 0 0,.slice none 0 0,.slice none 0 0] 27)))
 have Z_6 := mkA (show ((w.alloc (.cells #[vi c,vi s,vi lo,vi hi,.slice A4 h.length c4,.slice A5 r.length c5,.slice A6 R.length c6] 27)).alloc (.cells #[vi 0,vi 0,vi 0,vi 0,.slice none 0 0,.slice none 0 0,.slice none 0 0] 27)).heap.size = w.heap.size + 1 + 1 by simp)
 have bxo_7 := mkA ((show Bx ((w.alloc (.cells #[vi c,vi s,vi lo,vi hi,.slice A4 h.length c4,.slice A5 r.length c5,.slice A6 R.length c6] 27)).alloc (.cells #[vi 0,vi 0,vi 0,vi 0,.slice none 0 0,.slice none 0 0,.slice none 0 0] 27)) (w.heap.size + 1) 27 #[vi 0,vi 0,vi 0,vi 0,.slice none 0 0,.slice none 0 0,.slice none 0 0] from (show (w.alloc (.cells #[vi c,vi s,vi lo,vi hi,.slice A4 h.length c4,.slice A5 r.length c5,.slice A6 R.length c6] 27)).heap.size = w.heap.size + 1 by simp) ▸ Bx.new (w.alloc (.cells #[vi c,vi s,vi lo,vi hi,.slice A4 h.length c4,.slice A5 r.length c5,.slice A6 R.length c6] 27)) 27 #[vi 0,vi 0,vi 0,vi 0,.slice none 0 0,.slice none 0 0,.slice none 0 0]))
 clear bxa_3 HB_1
 go_wp2_with fail
 refine (spec_Insert.cp k c s lo hi (U.out.below HB_5.out) K3.out).mono ?_
 rintro e w1 ⟨x1,y1,z1,a1,b1,rfl,hs,hm,hb⟩
 have S_8 := mkA hs
 clear hs
 have Z_9 := mkA hm
 clear hm
 unfold Made at Z_9
 have bxa_10 := mkA (bxa_4.out.below hb)
 have bxo_11 := mkA (bxo_7.out.below hb)
 have HB_12 := mkA (below_step HB_5.out hb)
 have Z_13 := mkA (hb.size)
 clear bxa_4 bxo_7 HB_5 hb
 obtain ⟨gx,cx,gy,cy,gz,cz,rfl,rfl,rfl⟩ := S_8.out.named (by have := L.out;omega) (by have := L.out;omega) (by have := L.out;omega)
 obtain ⟨bxa13c0,bxa13c1,bxa13c2,bxa13c3,bxa13c4,bxa13c5,bxa13c6⟩ := bxa_10.out.cellsA
 go_wp2_with fail
 clear bxa13c0 bxa13c1 bxa13c2 bxa13c3 bxa13c4 bxa13c5 bxa13c6
 have bxa_15 := mkA (bxa_10.out.below (below_alloc (Below.refl _ w1) (.cells #[vi c,vi s,vi lo,vi hi,.slice (some ⟨gx,0,none⟩) h.length cx,.slice (some ⟨gy,0,none⟩) r.length cy,.slice (some ⟨gz,0,none⟩) R.length cz] 27)))
 have bxo_16 := mkA (bxo_11.out.below (below_alloc (Below.refl _ w1) (.cells #[vi c,vi s,vi lo,vi hi,.slice (some ⟨gx,0,none⟩) h.length cx,.slice (some ⟨gy,0,none⟩) r.length cy,.slice (some ⟨gz,0,none⟩) R.length cz] 27)))
 have S_17 := mkA (S_8.out.below (below_alloc (Below.refl _ w1) (.cells #[vi c,vi s,vi lo,vi hi,.slice (some ⟨gx,0,none⟩) h.length cx,.slice (some ⟨gy,0,none⟩) r.length cy,.slice (some ⟨gz,0,none⟩) R.length cz] 27)))
 have HB_18 := mkA (below_step HB_12.out (below_alloc (Below.refl _ w1) (.cells #[vi c,vi s,vi lo,vi hi,.slice (some ⟨gx,0,none⟩) h.length cx,.slice (some ⟨gy,0,none⟩) r.length cy,.slice (some ⟨gz,0,none⟩) R.length cz] 27)))
 have Z_19 := mkA (show (w1.alloc (.cells #[vi c,vi s,vi lo,vi hi,.slice (some ⟨gx,0,none⟩) h.length cx,.slice (some ⟨gy,0,none⟩) r.length cy,.slice (some ⟨gz,0,none⟩) R.length cz] 27)).heap.size = w1.heap.size + 1 by simp)
 have ae := mkA (Bx.new w1 27 #[vi c,vi s,vi lo,vi hi,.slice (some ⟨gx,0,none⟩) h.length cx,.slice (some ⟨gy,0,none⟩) r.length cy,.slice (some ⟨gz,0,none⟩) R.length cz])
 clear bxa_10 bxo_11 S_8 HB_12
 refine (spec_Insert.ok k c s lo hi true (U.out.below HB_18.out) K1.out).mono ?_
 rintro e w2 ⟨rfl,hb⟩
 have bxa_21 := mkA (bxa_15.out.below hb)
 have bxo_22 := mkA (bxo_16.out.below hb)
 have S_23 := mkA (S_17.out.below hb)
 have af := mkA (ae.out.below hb)
 have HB_25 := mkA (below_step HB_18.out hb)
 have Z_26 := mkA (hb.size)
 clear bxa_15 bxo_16 S_17 ae HB_18 hb
 go_wp2_with fail
 refine (spec_l1In.calls v 0 1000000 true _ KW.out).mono ?_
 rintro e w3 ⟨rfl,hd⟩
 have hb := hd.below
 clear hd
 have bxa_27 := mkA (bxa_21.out.below hb)
 have bxo_28 := mkA (bxo_22.out.below hb)
 have S_29 := mkA (S_23.out.below hb)
 have ak := mkA (af.out.below hb)
 have HB_31 := mkA (below_step HB_25.out hb)
 have Z_32 := mkA (hb.size)
 clear bxa_21 bxo_22 S_23 af HB_25 hb
 have M3 := mkA (show MInv w w3 a1 b1 w.heap.size (w.heap.size + 1) w1.heap.size ⟨some ⟨gx,0,none⟩,h.length,cx⟩ ⟨some ⟨gy,0,none⟩,r.length,cy⟩ ⟨some ⟨gz,0,none⟩,R.length,cz⟩ #[vi c,vi s,vi lo,vi hi,.slice A4 h.length c4,.slice A5 r.length c5,.slice A6 R.length c6] #[vi c,vi s,vi lo,vi hi,.slice (some ⟨gx,0,none⟩) h.length cx,.slice (some ⟨gy,0,none⟩) r.length cy,.slice (some ⟨gz,0,none⟩) R.length cz] h r R from ⟨S_29.out,bxa_27.out,bxo_28.out,ak.out,HB_31.out,Z8x0,Z8x0,Z8x0,Z8x0⟩)
 have AB : a1 ≤ b1 := by have := Z_2.out;have := Z_6.out;have := Z_9.out;have := Z_13.out;have := Z_19.out;have := Z_26.out;have := Z_32.out;omega
 have NE : w.heap.size ≠ w1.heap.size := by have := Z_2.out;have := Z_6.out;have := Z_9.out;have := Z_13.out;have := Z_19.out;have := Z_26.out;have := Z_32.out;omega
 have NE_ : w1.heap.size ≠ w.heap.size := by have := Z_2.out;have := Z_6.out;have := Z_9.out;have := Z_13.out;have := Z_19.out;have := Z_26.out;have := Z_32.out;omega
 clear bxa_27 bxo_28 S_29 ak HB_31 Z_2 Z_6 Z_9 Z_13 Z_19 Z_26 Z_32
 obtain ⟨q1,h2,h3⟩ | ⟨q1,e2,e3⟩ := HQ.out
 all_goals
  first | (have E2 := mkA h2;clear h2) | (skip)
  obtain ⟨M3X0,M3X1,M3X2,M3X3,M3X4,M3X5,M3X6⟩ := M3.out.X.cells
  obtain ⟨M3B0,M3B1,M3B2,M3B3,M3B4,M3B5,M3B6⟩ := M3.out.B.cells
  have M3F := M3.out.X.fz
  go_wp2_with fail
  refine (spec_Add.still c 1 c1 _ aK.out).mono ?_
  rintro e w3 ⟨rfl,rfl⟩
  go_wp2_with fail
  clear M3X0 M3X1 M3X2 M3X3 M3X4 M3X5 M3X6 M3B0 M3B1 M3B2 M3B3 M3B4 M3B5 M3B6 M3F
  have M4 := mkA (M3.out.set6 AB 0 (vi c1) (B6' := #[vi c1,vi s,vi lo,vi hi,.slice (some ⟨gx,0,none⟩) h.length cx,.slice (some ⟨gy,0,none⟩) r.length cy,.slice (some ⟨gz,0,none⟩) R.length cz]) rfl)
  clear M3
  generalize w3.setCell ⟨w1.heap.size,0,none⟩ (vi c1) = w4 at *
  refine (spec_Add.still s v s1 _ aL.out).mono ?_
  rintro e w4 ⟨rfl,rfl⟩
  obtain ⟨M4X0,M4X1,M4X2,M4X3,M4X4,M4X5,M4X6⟩ := M4.out.X.cells
  obtain ⟨M4B0,M4B1,M4B2,M4B3,M4B4,M4B5,M4B6⟩ := M4.out.B.cells
  have M4F := M4.out.X.fz
  go_wp2_with fail
  clear M4X0 M4X1 M4X2 M4X3 M4X4 M4X5 M4X6 M4B0 M4B1 M4B2 M4B3 M4B4 M4B5 M4B6 M4F
  have M5 := mkA (M4.out.set6 AB 1 (vi s1) (B6' := #[vi c1,vi s1,vi lo,vi hi,.slice (some ⟨gx,0,none⟩) h.length cx,.slice (some ⟨gy,0,none⟩) r.length cy,.slice (some ⟨gz,0,none⟩) R.length cz]) rfl)
  clear M4
  generalize w4.setCell ⟨w1.heap.size,1,none⟩ (vi s1) = w5 at *
  refine (spec_l1Min.still lo v m0 _ QM.out).mono ?_
  rintro e w5 ⟨rfl,rfl⟩
  obtain ⟨M5X0,M5X1,M5X2,M5X3,M5X4,M5X5,M5X6⟩ := M5.out.X.cells
  obtain ⟨M5B0,M5B1,M5B2,M5B3,M5B4,M5B5,M5B6⟩ := M5.out.B.cells
  have M5F := M5.out.X.fz
  go_wp2_with fail
  clear M5X0 M5X1 M5X2 M5X3 M5X4 M5X5 M5X6 M5B0 M5B1 M5B2 M5B3 M5B4 M5B5 M5B6 M5F
  first | (have M6 := mkA (show MInv w ((w5.setCell ⟨w1.heap.size,2,none⟩ (vi m0)).setCell ⟨w1.heap.size,2,none⟩ (vi v)) a1 b1 w.heap.size (w.heap.size + 1) w1.heap.size ⟨some ⟨gx,0,none⟩,h.length,cx⟩ ⟨some ⟨gy,0,none⟩,r.length,cy⟩ ⟨some ⟨gz,0,none⟩,R.length,cz⟩ #[vi c,vi s,vi lo,vi hi,.slice A4 h.length c4,.slice A5 r.length c5,.slice A6 R.length c6] #[vi c1,vi s1,vi m2,vi hi,.slice (some ⟨gx,0,none⟩) h.length cx,.slice (some ⟨gy,0,none⟩) r.length cy,.slice (some ⟨gz,0,none⟩) R.length cz] h r R from by rw [E2.out];exact (M5.out.set6 AB 2 (vi m0) rfl).set6 AB 2 (vi v) rfl);clear E2 h3;generalize (w5.setCell ⟨w1.heap.size,2,none⟩ (vi m0)).setCell ⟨w1.heap.size,2,none⟩ (vi v) = w6 at *) | (have M6 := mkA (show MInv w (w5.setCell ⟨w1.heap.size,2,none⟩ (vi m0)) a1 b1 w.heap.size (w.heap.size + 1) w1.heap.size ⟨some ⟨gx,0,none⟩,h.length,cx⟩ ⟨some ⟨gy,0,none⟩,r.length,cy⟩ ⟨some ⟨gz,0,none⟩,R.length,cz⟩ #[vi c,vi s,vi lo,vi hi,.slice A4 h.length c4,.slice A5 r.length c5,.slice A6 R.length c6] #[vi c1,vi s1,vi m2,vi hi,.slice (some ⟨gx,0,none⟩) h.length cx,.slice (some ⟨gy,0,none⟩) r.length cy,.slice (some ⟨gz,0,none⟩) R.length cz] h r R from by rw [e2];exact M5.out.set6 AB 2 (vi m0) rfl);clear e2 e3;generalize w5.setCell ⟨w1.heap.size,2,none⟩ (vi m0) = w6 at *)
  clear M5 q1
  refine (spec_l1Max.still hi v m3 _ QX.out).mono ?_
  rintro e w6 ⟨rfl,rfl⟩
  obtain ⟨M6X0,M6X1,M6X2,M6X3,M6X4,M6X5,M6X6⟩ := M6.out.X.cells
  have M6F := M6.out.X.fz
  go_wp2_with fail
  clear M6X0 M6X1 M6X2 M6X3 M6X4 M6X5 M6X6 M6F
  have M8 := mkA (M6.out.set6 AB 3 (vi m3) (B6' := #[vi c1,vi s1,vi m2,vi m3,.slice (some ⟨gx,0,none⟩) h.length cx,.slice (some ⟨gy,0,none⟩) r.length cy,.slice (some ⟨gz,0,none⟩) R.length cz]) rfl)
  clear M6
  generalize w6.setCell ⟨w1.heap.size,3,none⟩ (vi m3) = w8 at *
  have zb : (b : Int) < (h.length : Int) := by have := L.out;have := HBb.out;omega
  have z0 : (0 : Int) ≤ (b : Int) := by omega
  obtain ⟨p0,_⟩ := M8.out.S.hN (by have := L.out;omega)
  have pc := p0.at_v (i := b) (by have := L.out;have := HBb.out;omega) V2.out
  have pf := p0.fz b
  obtain ⟨n1,n2,_,_⟩ := M8.out.ne6 p0
  clear p0
  obtain ⟨M8X0,M8X1,M8X2,M8X3,M8X4,M8X5,M8X6⟩ := M8.out.X.cells
  have M8F := M8.out.X.fz
  refine wp_region_still_tail 11 (by kernel_rfl) (by kernel_rfl) ?_
  simp only [List.take_succ_cons,List.take_zero,List.drop_succ_cons,List.drop_zero]
  change wpStill _ _ w8.drew _ _ _
  repeat (first | still_step | still_call (spec_BucketOf.still k v b _ BK.out) | still_call (spec_Add.still v2 1 av _ aM.out))
  refine wpStill_nil ?_
  change wpList _ _ _ _ _ w8.drew
  have PUT := (M8.out.S.hN (by have := L.out;omega)).2 b av
  have M9 := mkA ((M8.out.kp PUT.2 PUT.1).below (below_drew (Below.refl _ _)))
  clear PUT
  go_wp2_with fail
  clear pc pf n1 n2 zb z0 M8X0 M8X1 M8X2 M8X3 M8X4 M8X5 M8X6 M8F
  refine (spec_Mix.still v (mm : Int) _ MK.out).mono ?_
  rintro e w9 ⟨rfl,hw⟩
  rw [← hw] at M9
  clear hw M8
  obtain ⟨M9X0,M9X1,M9X2,M9X3,M9X4,M9X5,M9X6⟩ := M9.out.X.cells
  have M9F := M9.out.X.fz
  have aB : (0 : Int) ≤ (mm : Int) := by omega
  have aC : (mm : Int) < 65536 := by have := MB.out;omega
  obtain ⟨j8,e8⟩ : ∃ j8 : Nat,(mm : Int) % 8 = (j8 : Int) := ⟨mm % 8,by omega⟩
  have J8 := mkA (show mm % 8 = j8 by omega)
  have V3 := V3
  rw [J8.out] at V3
  go_wp2_with fail
  try rw [e8]
  clear e8 aB aC M9X0 M9X1 M9X2 M9X3 M9X4 M9X5 M9X6 M9F
  have zb : (j8 : Int) < (r.length : Int) := by have := L.out;have := J8.out;omega
  have z0 : (0 : Int) ≤ (j8 : Int) := by omega
  obtain ⟨p0,_⟩ := M9.out.S.rN (by have := L.out;omega)
  have pc := p0.at_v (i := j8) (by have := L.out;have := J8.out;omega) V3.out
  have pf := p0.fz j8
  obtain ⟨n1,n2,_,_⟩ := M9.out.ne6 p0
  clear p0
  obtain ⟨M9X0,M9X1,M9X2,M9X3,M9X4,M9X5,M9X6⟩ := M9.out.X.cells
  have M9F := M9.out.X.fz
  refine wp_region_still_tail 11 (by kernel_rfl) (by kernel_rfl) ?_
  simp only [List.take_succ_cons,List.take_zero,List.drop_succ_cons,List.drop_zero]
  change wpStill _ _ w9.drew _ _ _
  repeat (first | still_step | still_call (spec_RankOf.still k v rk _ RK.out) | still_call (spec_l1Max.still v3 rk rv _ RZ.out))
  refine wpStill_nil ?_
  change wpList _ _ _ _ _ w9.drew
  have PUT := (M9.out.S.rN (by have := L.out;omega)).2 j8 rv
  have aD := mkA ((M9.out.kp PUT.2 PUT.1).below (below_drew (Below.refl _ _)))
  clear PUT
  obtain ⟨y0,y1,y2,y3,y4,y5,y6⟩ := aD.out.X.cells
  go_wp2_with fail
  clear pc pf n1 n2 zb z0 y0 y1 y2 y3 y4 y5 y6 M9 M9X0 M9X1 M9X2 M9X3 M9X4 M9X5 M9X6 M9F
  go_loopg [8] 2 (fun gg t1 wr => ∃ i : Nat,i ≤ 2 ∧ 2 - i ≤ gg ∧ t1 = vi i ∧ Aside0 (MInv w wr a1 b1 w.heap.size (w.heap.size + 1) w1.heap.size ⟨some ⟨gx,0,none⟩,h.length,cx⟩ ⟨some ⟨gy,0,none⟩,r.length,cy⟩ ⟨some ⟨gz,0,none⟩,R.length,cz⟩ #[vi c,vi s,vi lo,vi hi,.slice A4 h.length c4,.slice A5 r.length c5,.slice A6 R.length c6] #[vi c1,vi s1,vi m2,vi m3,.slice (some ⟨gx,0,none⟩) h.length cx,.slice (some ⟨gy,0,none⟩) r.length cy,.slice (some ⟨gz,0,none⟩) R.length cz] (h.set b av) (r.set j8 rv) (mix2 WZ R i)))
  case atStart => exact ⟨0,by omega,by omega,rfl,⟨by rw [mix2_zero];exact aD.out⟩⟩
  case round =>
   clear aD
   obtain ⟨i,hi,hg,rfl,M⟩ := hrel
   by_cases hlt : i < 2
   ·have hltz : (i : Int) < 2 := by have := L.out;omega
    have hltr : (i : Int) < (R.length : Int) := by have := L.out;omega
    have h0z : (0 : Int) ≤ (i : Int) := by omega
    have aB : (0 : Int) ≤ (mm : Int) := by omega
    have aC : (mm : Int) < 65536 := by have := MB.out;omega
    have zl : WZ.length = R.length := by have := LZ.out;have := L.out;omega
    have iR : i < (mix2 WZ R i).length := by rw [mix2_length zl];have := L.out;omega
    have eR : (mix2 WZ R i)[i] = R.getD i [] := by
     have := mix2_getD zl (show i < R.length by have := L.out;omega) ([] : List Int);rw [List.getD_eq_getElem?_getD,List.getElem?_eq_getElem iR] at this;exact this
    obtain ⟨z,a0,aE,aF⟩ := AW.out i hlt;obtain ⟨j,ej,aG⟩ : ∃ j : Nat,((mm : Int) + (i : Int)) % 4 = (j : Int) ∧ (i + mm) % 4 = j := ⟨(i + mm) % 4,by omega,rfl⟩;rw [aG] at aE aF;have J4 := mkA (show j < 4 by omega);clear aG;have aN := mkA a0;have aO := mkA aE;have aP := mkA aF;obtain ⟨p,cp,gp,P,put⟩ := M.out.S.rowN i iR (by rw [eR];omega);rw [eR] at gp P put;have pc := P.at_v (i := j) (v := (R.getD i []).getD j 0) (by have := J4.out;omega) rfl;have pf := P.fz j;have PUT := put j z;rw [← aP.out,mix2_setD zl (by have := L.out;omega)] at PUT;have M1 := mkA ((M.out.kp PUT.2 PUT.1).below (below_drew (Below.refl _ _)));have lq : (R.getD i []).length = 4 := aN.out
    have aQ : (j : Int) < ((R.getD i []).length : Int) := by have := J4.out;omega
    have aR : (0 : Int) ≤ (j : Int) := by omega
    obtain ⟨n1,n2,_,_⟩ := M.out.ne6 P;obtain ⟨x0,x1,x2,x3,x4,x5,x6⟩ := M.out.X.cells;clear PUT put P eR iR zl a0 aE aF lq;generalize (R.getD i []).getD j 0 = v4 at *;generalize R.getD i [] = rowi at *
    go_wp2_with fail
    refine (spec_Mix.still v (mm : Int) _ MK.out).mono ?_
    rintro e w9 ⟨rfl,rfl⟩
    go_wp2_with fail
    try rw [ej]
    clear ej aB aC;refine wp_region_still_tail 15 (by kernel_rfl) (by kernel_rfl) ?_;simp only [List.take_succ_cons,List.take_zero,List.drop_succ_cons,List.drop_zero]
    change wpStill _ _ w9.drew _ _ _
    repeat (first | still_step | still_call (spec_Add.still v4 1 z _ aO.out))
    refine wpStill_nil ?_
    change wpList _ _ _ _ _ w9.drew
    go_wp2
    go_roundg (2 - (i + 1))
    case measure => omega
    case rel => exact ⟨i + 1,by omega,by omega,by go_num,⟨M1.out⟩⟩
   ·have : i = 2 := by omega
    subst this
    have hltz : ¬ ((2 : Nat) : Int) < 2 := by have := L.out;omega
    rw [mix2_all (by have := LZ.out;have := L.out;omega) (by have := L.out;omega)] at M;obtain ⟨x0,x1,x2,x3,x4,x5,x6⟩ := M.out.X.cells;obtain ⟨y0,y1,y2,y3,y4,y5,y6⟩ := M.out.O.cells;have fo := M.out.O.fz
    go_wp2
    refine bodyPost_ret (results_ct rfl _ _ (w.heap.size + 1) 27 #[vi c1,vi s1,vi m2,vi m3,.slice (some ⟨gx,0,none⟩) h.length cx,.slice (some ⟨gy,0,none⟩) r.length cy,.slice (some ⟨gz,0,none⟩) R.length cz] (0,0) _ rfl (M.out.O.fill _ _ _ _ _ _ _).1 Try.underlying27 rfl (by kernel_rfl)) rfl ?_;have fin := M.out.out (by omega) AB c1 s1 m2 m3 true
    first | exact fin | (rw [← J8.out] at fin;exact fin)

def spec_Insert.g (k : Nat) (ag : Int) (ah : Int) (ai : Int) (aj : Int) (ab : List Int) (ad : List Int) (aa : List (List Int)) (a1 : Int) : Option (Int × Int × Int × Int × List Int × List Int × (List (List Int)) × Bool) := (spec_Add.f ag 1).bind fun c1 => (spec_Add.f ah a1).bind fun s1 => (spec_l1Min.f ai a1).bind fun m0 => (spec_l1Max.f aj a1).bind fun m3 => (spec_BucketOf.f k a1).bind fun b => (spec_Mix.f a1).bind fun m => (spec_Add.f (ab.getD b.toNat 0) 1).bind fun hb => (spec_RankOf.f k a1).bind fun rk => (spec_l1Max.f (ad.getD (m.toNat % 8) 0) rk).bind fun rv => (spec_Add.f ((aa.getD 0 []).getD ((0 + m.toNat) % 4) 0) 1).bind fun z0 => (spec_Add.f ((aa.getD 1 []).getD ((1 + m.toNat) % 4) 0) 1).bind fun z1 => if ab.length = 8 ∧ ad.length = 8 ∧ aa.length = 2 ∧ (aa.getD 0 []).length = 4 ∧ (aa.getD 1 []).length = 4 ∧ 0 ≤ b ∧ b < 8 ∧ 0 ≤ m ∧ m < 65536 then some (c1,s1,(if ag = 0 then a1 else m0),m3,ab.set b.toNat hb,ad.set (m.toNat % 8) rv,[(aa.getD 0 []).set ((0 + m.toNat) % 4) z0,(aa.getD 1 []).set ((1 + m.toNat) % 4) z1],true) else none
def spec_Insert.f (k : Nat) (ag : Int) (ah : Int) (ai : Int) (aj : Int) (ab : List Int) (ad : List Int) (aa : List (List Int)) (a1 : Int) : Option (Int × Int × Int × Int × List Int × List Int × (List (List Int)) × Bool) := (spec_l3Copy.f k ag ah ai aj ab ad aa).bind fun t => if t.1 = ag ∧ t.2.1 = ah ∧ t.2.2.1 = ai ∧ t.2.2.2.1 = aj ∧ t.2.2.2.2.1 = ab ∧ t.2.2.2.2.2.1 = ad ∧ t.2.2.2.2.2.2 = aa then ((spec_SketchOk.f k ag ah ai aj ab ad aa).bind fun t1 => if t1 = true then ((spec_l1In.f a1 0 1000000).bind fun t2 => if t2 = true then spec_Insert.g k ag ah ai aj ab ad aa a1 else some (ag,ah,ai,aj,ab,ad,aa,false)) else some (ag,ah,ai,aj,ab,ad,aa,false)) else none
theorem spec_Insert.calls (k : Nat) (ag : Int) (ah : Int) (ai : Int) (aj : Int) (al : Option Addr) (an : Nat) (ab : List Int) (ao : Option Addr) (aq : Nat) (ad : List Int) (ar : Option Addr) (au : Nat) (aa : List (List Int)) (a1 : Int) (r1 : Int) (r2 : Int) (r3 : Int) (r4 : Int) (r5 : List Int) (r6 : List Int) (r7 : List (List Int)) (r8 : Bool) (w : World) (aw : Kd.C (Kd.int .i64) w al ab.length ab) (ax : ab.length ≤ an) (ay : Kd.C (Kd.int .i64) w ao ad.length ad) (az : ad.length ≤ aq) (a6 : Kd.C (Kd.slice 3 (Kd.int .i64)) w ar aa.length aa) (a7 : aa.length ≤ au) (h : spec_Insert.f k ag ah ai aj ab ad aa a1 = some (r1,r2,r3,r4,r5,r6,r7,r8)) :
  Calls Try.prog 112 #[.agg #[vi ag,vi ah,vi ai,vi aj,.slice al ab.length an,.slice ao ad.length aq,.slice ar aa.length au],vi a1] w fun e w' => ∃ a8 aA aH : Value,e = .returned (.tuple #[.agg #[vi r1,vi r2,vi r3,vi r4,a8,aA,aH],.bool r8]) ∧ Kd.R (Kd.int .i64) 3 w' w.heap.size (fun k_ => some k_ ≠ (aA : Value).ownBlock) a8 r5 ∧ Kd.R (Kd.int .i64) 3 w' w.heap.size (fun k_ => some k_ ≠ (a8 : Value).ownBlock) aA r6 ∧ Kd.S (Kd.slice 3 (Kd.int .i64)) 24 w' w.heap.size (fun k_ => some k_ ≠ (a8 : Value).ownBlock ∧ some k_ ≠ (aA : Value).ownBlock) aH r7 ∧ Below w.heap.size w w' := by
 have u : Rd w ⟨al,ab.length,an⟩ ⟨ao,ad.length,aq⟩ ⟨ar,aa.length,au⟩ ab ad aa := ⟨rfl,rfl,rfl,ax,az,a7,aw,ay,a6⟩
 have key : Calls Try.prog 112 #[.agg #[vi ag,vi ah,vi ai,vi aj,.slice al ab.length an,.slice ao ad.length aq,.slice ar aa.length au],vi a1] w (SkOut w r1 r2 r3 r4 r5 r6 r7 r8) := by
  unfold spec_Insert.f at h
  obtain ⟨t,h3,h⟩ := Option.bind_eq_some_iff.mp h
  by_cases b4 : t.1 = ag ∧ t.2.1 = ah ∧ t.2.2.1 = ai ∧ t.2.2.2.1 = aj ∧ t.2.2.2.2.1 = ab ∧ t.2.2.2.2.2.1 = ad ∧ t.2.2.2.2.2.2 = aa
  ·rw [if_pos b4] at h
   obtain ⟨t0,t1,t2,t3,t4,t5,t6⟩ := t
   obtain ⟨d0,d1,d2,d3,d4,d5,d6⟩ := b4
   simp only at d0 d1 d2 d3 d4 d5 d6
   rw [d0,d1,d2,d3,d4,d5,d6] at h3
   clear d0 d1 d2 d3 d4 d5 d6
   obtain ⟨t1,h1,h⟩ := Option.bind_eq_some_iff.mp h
   by_cases b1 : t1 = true
   ·subst b1
    rw [if_pos rfl] at h;obtain ⟨t2,h2,h⟩ := Option.bind_eq_some_iff.mp h
    by_cases b2 : t2 = true
    ·subst b2
     rw [if_pos rfl] at h;unfold spec_Insert.g at h;obtain ⟨c1,g1,h⟩ := Option.bind_eq_some_iff.mp h;obtain ⟨s1,g2,h⟩ := Option.bind_eq_some_iff.mp h;obtain ⟨m0,gm,h⟩ := Option.bind_eq_some_iff.mp h;obtain ⟨m3,gx,h⟩ := Option.bind_eq_some_iff.mp h;obtain ⟨b,g3,h⟩ := Option.bind_eq_some_iff.mp h;obtain ⟨m,g4,h⟩ := Option.bind_eq_some_iff.mp h;obtain ⟨hb,g5,h⟩ := Option.bind_eq_some_iff.mp h;obtain ⟨rk,g6,h⟩ := Option.bind_eq_some_iff.mp h;obtain ⟨rv,gv,h⟩ := Option.bind_eq_some_iff.mp h;obtain ⟨z0,g7,h⟩ := Option.bind_eq_some_iff.mp h;obtain ⟨z1,g8,h⟩ := Option.bind_eq_some_iff.mp h
     by_cases b3 : ab.length = 8 ∧ ad.length = 8 ∧ aa.length = 2 ∧ (aa.getD 0 []).length = 4 ∧ (aa.getD 1 []).length = 4 ∧ 0 ≤ b ∧ b < 8 ∧ 0 ≤ m ∧ m < 65536
     ·rw [if_pos b3] at h
      obtain ⟨n1,n2,n3,n4,n5,n6,n7,n8,n9⟩ := b3;simp only [Option.some.injEq,Prod.mk.injEq] at h;obtain ⟨rfl,rfl,rfl,rfl,rfl,rfl,rfl,rfl⟩ := h;obtain ⟨b,rfl⟩ : ∃ n : Nat,b = (n : Int) := ⟨b.toNat,by omega⟩;obtain ⟨m,rfl⟩ : ∃ n : Nat,m = (n : Int) := ⟨m.toNat,by omega⟩;simp only [Int.toNat_natCast] at *;refine spec_Insert.yes k _ _ _ _ _ w u ⟨h3⟩ ⟨h1⟩ ⟨h2⟩ ⟨⟨n1,n2,n3⟩⟩ _ _ _ _ _ rk m0 b m ⟨g1⟩ ⟨g2⟩ ⟨?_⟩ ⟨gm⟩ ⟨gx⟩ ⟨g4⟩ ⟨by omega⟩ ⟨g3⟩ ⟨by omega⟩ _ ⟨rfl⟩ _ _ ⟨rfl⟩ ⟨gv⟩ ⟨g6⟩ _ ⟨rfl⟩ ⟨?_⟩ ⟨g5⟩
      ·by_cases e : ag = 0
       ·exact .inl ⟨by simp [e],by rw [if_pos e],trivial⟩
       ·exact .inr ⟨by simp [e],by rw [if_neg e],trivial⟩
      ·intro i hi
       match i,hi with
       | 0,_ => exact ⟨z0,n4,g7,rfl⟩
       | 1,_ => exact ⟨z1,n5,g8,rfl⟩
     ·rw [if_neg b3] at h
      cases h
    ·rw [if_neg b2] at h
     simp only [Option.some.injEq,Prod.mk.injEq] at h;obtain ⟨rfl,rfl,rfl,rfl,rfl,rfl,rfl,rfl⟩ := h
     have : t2 = false := by simpa using b2
     subst this;exact spec_Insert.no2 k _ _ _ _ _ w u ⟨h3⟩ ⟨h1⟩ ⟨h2⟩
   ·rw [if_neg b1] at h
    simp only [Option.some.injEq,Prod.mk.injEq] at h;obtain ⟨rfl,rfl,rfl,rfl,rfl,rfl,rfl,rfl⟩ := h
    have : t1 = false := by simpa using b1
    subst this;exact spec_Insert.no1 k _ _ _ _ _ w u ⟨h3⟩ ⟨h1⟩
  ·rw [if_neg b4] at h
   cases h
 refine key.mono ?_
 rintro e w' ⟨x,y,z,a,b,rfl,hs,hm,hb⟩
 obtain ⟨k1,k2,k3⟩ := hs.kd hm.1
 exact ⟨_,_,_,rfl,k1,k2,k3,hb⟩

end Go.Proofs.Ytdciagkholijlaa.PFnEntries
