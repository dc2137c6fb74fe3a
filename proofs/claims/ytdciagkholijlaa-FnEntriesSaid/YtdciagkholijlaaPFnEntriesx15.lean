-- Written by this session's changed copy of the kit's printer (wip/patch_print.py): not the kit's own print.
import Derived.Test.YtdciagkholijlaaPFnEntriesx0
import Derived.Test.YtdciagkholijlaaPFnEntriesx3
import Derived.Test.YtdciagkholijlaaPFnEntriesx4
import Derived.Test.YtdciagkholijlaaPFnEntriesx5
import Derived.Test.YtdciagkholijlaaPFnEntriesx14
namespace Go.Proofs.Ytdciagkholijlaa.PFnEntries
open Go.RowKit Go.Proofs.YtdciagkholijlaaW.PrintWords Go.Proofs.YtdciagkholijlaaW.PrintLast Go.Proofs.YtdciagkholijlaaW.PrintMore
attribute [local go_sem] max2_int min2_int max_two min_two max_three min_three max_four min_four   -- for this text's walks alone
set_option linter.unusedVariables false
set_option linter.unusedSimpArgs false
set_option maxHeartbeats 16000000
set_option maxRecDepth 100000
theorem Z15x0 {p : Prop} (h : p := by first | (with_reducible assumption) | assumption) : p := h
theorem Z15x1 {p : Prop} (h : p := by repeat (first | (with_reducible first | exact HB.out | apply below_alloc | apply pw_below_drewN | apply below_drew1 | refine below_set ?_ bw.out) | exact HB.out)) : p := h
theorem Z15x2 {p : Prop} (h : p := by repeat (first | (with_reducible first | exact HB.out | apply below_alloc | apply pw_below_drewN | apply below_drew1) | exact HB.out)) : p := h
theorem Z15x3 {p : Prop} (h : p := by have := Z_2.out;have := Z_6.out;have := Z_11.out;have := Z_17.out;have := Z_23.out;have := Z_26.out;have := Z_31.out;have := Z_39.out;have := Z_47.out;have := Z_63.out;have := Z_70.out;have := Z_82.out;omega) : p := h
theorem Z15x4 {p : Prop} (h : p := by have := Z_2.out;have := Z_6.out;have := Z_11.out;have := Z_17.out;have := Z_23.out;have := Z_26.out;have := Z_31.out;have := Z_39.out;have := Z_47.out;omega) : p := h
theorem Z15x5 {p : Prop} (h : p := by have := Z_2.out;have := Z_6.out;have := Z_11.out;have := Z_17.out;have := Z_23.out;have := Z_26.out;have := Z_31.out;have := Z_39.out;have := Z_47.out;have := Z_63.out;have := Z_70.out;omega) : p := h
theorem Z15x6 {p : Prop} (h : p := by (try simp only [List.map_toArray,List.map_cons,List.map_nil]);first | done | rfl | (simp only [List.length_drop,List.length_take];rfl)) : p := h
theorem Z15x7 {p : Prop} (h : p := by repeat (first | exact Drawn0.refl _ | apply Drawn0.step)) : p := h
theorem Z15x8 {p : Prop} (h : p := by first | rfl | (simp [errW_none,errW_some] <;> rfl) | (simp [*,errW_none,errW_some] <;> rfl)) : p := h

theorem impl_limited.still (a b c : Int) (w : World) : Calls Try.prog 105 #[vi a,vi b,vi c] w fun e w' => e = .returned (vi (mn (mx a b) c)) ∧ w' = w := by
 go_enter Try.func105,Try.ntmps105
 go_wp2
 all_goals
  go_ret
  refine ⟨congrArg (fun z => Ending.returned (vi z)) ?_,rfl⟩
  unfold mn mx
  repeat' split
  all_goals omega
theorem impl_Add.still (a b r : Int) (w : World) (h : impl_Add.f a b = some r) : Calls Try.prog 91 #[vi a,vi b] w fun e w' => e = .returned (vi r) ∧ w' = w := by
 unfold impl_Add.f impl_limited.f at h
 simp only [Option.bind_some,Option.some.injEq] at h
 generalize h1 : mn (mx a 0) 1000000000 = x at h
 generalize h2 : mn (mx b 0) 1000000000 = y at h
 have H := mkA h
 have c1 := fun w' => impl_limited.still a 0 1000000000 w'
 have c2 := fun w' => impl_limited.still b 0 1000000000 w'
 rw [h1] at c1
 rw [h2] at c2
 clear h h1 h2
 go_enter Try.func91,Try.ntmps91
 go_wp2_with fail
 refine (c1 _).mono ?_
 rintro e w' ⟨rfl,rfl⟩
 go_wp2_with fail
 refine (c2 _).mono ?_
 rintro e w' ⟨rfl,rfl⟩
 go_wp2
 all_goals
  go_ret
  refine ⟨congrArg (fun z => Ending.returned (vi z)) ?_,rfl⟩
  rw [← H.out]
  generalize wrap64 (x + y) = q at *
  unfold mn
  repeat' split
  all_goals omega
theorem impl_Merge.ok (k : Nat) {w : World} {x y z : Sl} {h r : List Int} {R : List (List Int)} (c s lo hi : Int) (t : Bool) (u : Rd w x y z h r R) (he : impl_SketchOk.f k c s lo hi h r R = some t) :
  Calls Try.prog 44 #[.agg #[vi c,vi s,vi lo,vi hi,.slice x.A x.n x.c,.slice y.A y.n y.c,.slice z.A z.n z.c]] w fun e w' => e = .returned (.bool t) ∧ Below w.heap.size w w' := by
 rw [u.e4,u.e5,u.e6]
 exact impl_SketchOk.calls k c s lo hi _ _ h _ _ r _ _ R t w u.C4 u.l4 u.C5 u.l5 u.C6 u.l6 he
theorem impl_Merge.cp (k : Nat) {w : World} {x y z : Sl} {h r : List Int} {R : List (List Int)} (c s lo hi : Int) (u : Rd w x y z h r R) (he : impl_copySketch.f k c s lo hi h r R = some (c,s,lo,hi,h,r,R)) :
  Calls Try.prog 36 #[.agg #[vi c,vi s,vi lo,vi hi,.slice x.A x.n x.c,.slice y.A y.n y.c,.slice z.A z.n z.c]] w fun e w' => ∃ (x' y' z' : Sl) (a b : Nat),e = .returned (.agg #[vi c,vi s,vi lo,vi hi,.slice x'.A x'.n x'.c,.slice y'.A y'.n y'.c,.slice z'.A z'.n z'.c]) ∧ Sk w' a b x' y' z' h r R ∧ Made w w' a b ∧ Below w.heap.size w w' := by
 rw [u.e4,u.e5,u.e6]
 refine (impl_copySketch.calls k c s lo hi _ _ h _ _ r _ _ R c s lo hi h r R w u.C4 u.l4 u.C5 u.l5 u.C6 u.l6 he).mono ?_
 rintro e w' ⟨v4,v5,v6,rfl,h4,h5,h6,hb⟩
 obtain ⟨x',y',z',rfl,rfl,rfl,hs⟩ := Sk.of h4 h5 h6 (fun _ hk => hk) (fun _ hk => hk)
 exact ⟨x',y',z',_,_,rfl,hs,⟨Nat.le_refl _,hb.size,Nat.le_refl _⟩,hb⟩
def impl_Merge.G (c s : Int) (h r : List Int) (R : List (List Int)) (c' s' : Int) (h' r' : List Int) (R' : List (List Int)) : Prop :=
 (h.length = 8 ∧ r.length = 8 ∧ R.length = 2 ∧ h'.length = 8 ∧ r'.length = 8 ∧ R'.length = 2) ∧ impl_Add.f c c' = some (sadd c c') ∧ impl_Add.f s s' = some (sadd s s') ∧
 (∀ i,i < 8 → impl_Add.f (h.getD i 0) (h'.getD i 0) = some ((List.zipWith sadd h h').getD i 0)) ∧ (∀ i,i < 8 → mx (r.getD i 0) (r'.getD i 0) = (List.zipWith hi2 r r').getD i 0) ∧
 (∀ i,i < 2 → ((List.zipWith (List.zipWith sadd) R R').getD i []).length = 4 ∧ (R.getD i []).length = 4 ∧ (R'.getD i []).length = 4 ∧ ∀ j,j < 4 → impl_Add.f ((R.getD i []).getD j 0) ((R'.getD i []).getD j 0) = some (((List.zipWith (List.zipWith sadd) R R').getD i []).getD j 0))
instance (c s : Int) (h r : List Int) (R : List (List Int)) (c' s' : Int) (h' r' : List Int) (R' : List (List Int)) : Decidable (impl_Merge.G c s h r R c' s' h' r' R') := by unfold impl_Merge.G;infer_instance
def impl_Merge.lo (c lo c' lo' : Int) : Int := if c = 0 ∨ 0 < c' ∧ lo' < lo then lo' else lo
theorem impl_Merge.no1 (k : Nat) (c s lo hi c' s' lo' hi' : Int) {A4 A5 A6 B4 B5 B6 : Option Addr} {c4 c5 c6 d4 d5 d6 : Nat} {h r h' r' : List Int} {R R' : List (List Int)} (w : World) (u : Rd w ⟨A4,h.length,c4⟩ ⟨A5,r.length,c5⟩ ⟨A6,R.length,c6⟩ h r R) (u' : Rd w ⟨B4,h'.length,d4⟩ ⟨B5,r'.length,d5⟩ ⟨B6,R'.length,d6⟩ h' r' R')
  (K1 : Aside0 (impl_SketchOk.f k c s lo hi h r R = some false)) :
  Calls Try.prog 60 #[.agg #[vi c,vi s,vi lo,vi hi,.slice A4 h.length c4,.slice A5 r.length c5,.slice A6 R.length c6],.agg #[vi c',vi s',vi lo',vi hi',.slice B4 h'.length d4,.slice B5 r'.length d5,.slice B6 R'.length d6]] w (SkOut w 0 0 0 0 [] [] [] false) := by
 have U := mkA u
 have U' := mkA u'
 clear u u'
 go_enter Try.func60,Try.ntmps60
 have HB_1 := mkA ((below_alloc (Below.refl _ w) (.cells #[vi c,vi s,vi lo,vi hi,.slice A4 h.length c4,.slice A5 r.length c5,.slice A6 R.length c6] 27)))
 have Z_2 := mkA (show (w.alloc (.cells #[vi c,vi s,vi lo,vi hi,.slice A4 h.length c4,.slice A5 r.length c5,.slice A6 R.length c6] 27)).heap.size = w.heap.size + 1 by simp)
 have bxa_3 := mkA (Bx.new w 27 #[vi c,vi s,vi lo,vi hi,.slice A4 h.length c4,.slice A5 r.length c5,.slice A6 R.length c6])
 have bxa_4 := mkA (bxa_3.out.below (below_alloc (Below.refl _ (w.alloc (.cells #[vi c,vi s,vi lo,vi hi,.slice A4 h.length c4,.slice A5 r.length c5,.slice A6 R.length c6] 27))) (.cells #[vi c',vi s',vi lo',vi hi',.slice B4 h'.length d4,.slice B5 r'.length d5,.slice B6 R'.length d6] 27)))
 have HB_5 := mkA (below_step HB_1.out (below_alloc (Below.refl _ (w.alloc (.cells #[vi c,vi s,vi lo,vi hi,.slice A4 h.length c4,.slice A5 r.length c5,.slice A6 R.length c6] 27))) (.cells #[vi c',vi s',vi lo',vi hi',.slice B4 h'.length d4,.slice B5 r'.length d5,.slice B6 R'.length d6] 27)))
 have Z_6 := mkA (show ((w.alloc (.cells #[vi c,vi s,vi lo,vi hi,.slice A4 h.length c4,.slice A5 r.length c5,.slice A6 R.length c6] 27)).alloc (.cells #[vi c',vi s',vi lo',vi hi',.slice B4 h'.length d4,.slice B5 r'.length d5,.slice B6 R'.length d6] 27)).heap.size = w.heap.size + 1 + 1 by simp)
 have bxb_7 := mkA ((show Bx ((w.alloc (.cells #[vi c,vi s,vi lo,vi hi,.slice A4 h.length c4,.slice A5 r.length c5,.slice A6 R.length c6] 27)).alloc (.cells #[vi c',vi s',vi lo',vi hi',.slice B4 h'.length d4,.slice B5 r'.length d5,.slice B6 R'.length d6] 27)) (w.heap.size + 1) 27 #[vi c',vi s',vi lo',vi hi',.slice B4 h'.length d4,.slice B5 r'.length d5,.slice B6 R'.length d6] from (show (w.alloc (.cells #[vi c,vi s,vi lo,vi hi,.slice A4 h.length c4,.slice A5 r.length c5,.slice A6 R.length c6] 27)).heap.size = w.heap.size + 1 by simp) ▸ Bx.new (w.alloc (.cells #[vi c,vi s,vi lo,vi hi,.slice A4 h.length c4,.slice A5 r.length c5,.slice A6 R.length c6] 27)) 27 #[vi c',vi s',vi lo',vi hi',.slice B4 h'.length d4,.slice B5 r'.length d5,.slice B6 R'.length d6]))
 clear bxa_3 HB_1
 have bxa_8 := mkA (bxa_4.out.below (below_alloc (Below.refl _ ((w.alloc (.cells #[vi c,vi s,vi lo,vi hi,.slice A4 h.length c4,.slice A5 r.length c5,.slice A6 R.length c6] 27)).alloc (.cells #[vi c',vi s',vi lo',vi hi',.slice B4 h'.length d4,.slice B5 r'.length d5,.slice B6 R'.length d6] 27))) (.cells #[vi 0,vi 0,vi 0,vi 0,.slice none 0 0,.slice none 0 0,.slice none 0 0] 27)))
 have bxb_9 := mkA (bxb_7.out.below (below_alloc (Below.refl _ ((w.alloc (.cells #[vi c,vi s,vi lo,vi hi,.slice A4 h.length c4,.slice A5 r.length c5,.slice A6 R.length c6] 27)).alloc (.cells #[vi c',vi s',vi lo',vi hi',.slice B4 h'.length d4,.slice B5 r'.length d5,.slice B6 R'.length d6] 27))) (.cells #[vi 0,vi 0,vi 0,vi 0,.slice none 0 0,.slice none 0 0,.slice none 0 0] 27)))
 have HB_10 := mkA (below_step HB_5.out (below_alloc (Below.refl _ ((w.alloc (.cells #[vi c,vi s,vi lo,vi hi,.slice A4 h.length c4,.slice A5 r.length c5,.slice A6 R.length c6] 27)).alloc (.cells #[vi c',vi s',vi lo',vi hi',.slice B4 h'.length d4,.slice B5 r'.length d5,.slice B6 R'.length d6] 27))) (.cells #[vi 0,vi 0,vi 0,vi 0,.slice none 0 0,.slice none 0 0,.slice none 0 0] 27)))
 have Z_11 := mkA (show (((w.alloc (.cells #[vi c,vi s,vi lo,vi hi,.slice A4 h.length c4,.slice A5 r.length c5,.slice A6 R.length c6] 27)).alloc (.cells #[vi c',vi s',vi lo',vi hi',.slice B4 h'.length d4,.slice B5 r'.length d5,.slice B6 R'.length d6] 27)).alloc (.cells #[vi 0,vi 0,vi 0,vi 0,.slice none 0 0,.slice none 0 0,.slice none 0 0] 27)).heap.size = w.heap.size + 1 + 1 + 1 by simp)
 have bxo_12 := mkA ((show Bx (((w.alloc (.cells #[vi c,vi s,vi lo,vi hi,.slice A4 h.length c4,.slice A5 r.length c5,.slice A6 R.length c6] 27)).alloc (.cells #[vi c',vi s',vi lo',vi hi',.slice B4 h'.length d4,.slice B5 r'.length d5,.slice B6 R'.length d6] 27)).alloc (.cells #[vi 0,vi 0,vi 0,vi 0,.slice none 0 0,.slice none 0 0,.slice none 0 0] 27)) (w.heap.size + 1 + 1) 27 #[vi 0,vi 0,vi 0,vi 0,.slice none 0 0,.slice none 0 0,.slice none 0 0] from (show ((w.alloc (.cells #[vi c,vi s,vi lo,vi hi,.slice A4 h.length c4,.slice A5 r.length c5,.slice A6 R.length c6] 27)).alloc (.cells #[vi c',vi s',vi lo',vi hi',.slice B4 h'.length d4,.slice B5 r'.length d5,.slice B6 R'.length d6] 27)).heap.size = w.heap.size + 1 + 1 by simp) ▸ Bx.new ((w.alloc (.cells #[vi c,vi s,vi lo,vi hi,.slice A4 h.length c4,.slice A5 r.length c5,.slice A6 R.length c6] 27)).alloc (.cells #[vi c',vi s',vi lo',vi hi',.slice B4 h'.length d4,.slice B5 r'.length d5,.slice B6 R'.length d6] 27)) 27 #[vi 0,vi 0,vi 0,vi 0,.slice none 0 0,.slice none 0 0,.slice none 0 0]))
 clear bxa_4 bxb_7 HB_5
 go_wp2_with fail
 refine (impl_Merge.ok k c s lo hi false (U.out.below HB_10.out) K1.out).mono ?_
 rintro e w1 ⟨rfl,hb⟩
 have bxa_13 := mkA (bxa_8.out.below hb)
 have bxb_14 := mkA (bxb_9.out.below hb)
 have bxo_15 := mkA (bxo_12.out.below hb)
 have HB_16 := mkA (below_step HB_10.out hb)
 have Z_17 := mkA (hb.size)
 clear bxa_8 bxb_9 bxo_12 HB_10 hb
 obtain ⟨bxo17c0,bxo17c1,bxo17c2,bxo17c3,bxo17c4,bxo17c5,bxo17c6⟩ := bxo_15.out.cells
 have eP := bxo_15.out.fz
 go_wp2
 refine bodyPost_ret (results_ct rfl _ _ (w.heap.size + 1 + 1) 27 #[vi 0,vi 0,vi 0,vi 0,.slice none 0 0,.slice none 0 0,.slice none 0 0] (0,0) _ rfl (bxo_15.out.fill _ _ _ _ _ _ _).1 Try.underlying27 rfl (by kernel_rfl)) rfl ?_
 exact ⟨⟨none,0,0⟩,⟨none,0,0⟩,⟨none,0,0⟩,_,_,rfl,Sk.nil _ w.heap.size w.heap.size,⟨Nat.le_refl _,Nat.le_refl _,Nat.le_trans HB_16.out.size (bxo_15.out.fill _ _ _ _ _ _ _).2.kept.1⟩,below_kp HB_16.out (bxo_15.out.fill _ _ _ _ _ _ _).2 (by omega) HB_16.out.size⟩
theorem impl_Merge.no2 (k : Nat) (c s lo hi c' s' lo' hi' : Int) {A4 A5 A6 B4 B5 B6 : Option Addr} {c4 c5 c6 d4 d5 d6 : Nat} {h r h' r' : List Int} {R R' : List (List Int)} (w : World) (u : Rd w ⟨A4,h.length,c4⟩ ⟨A5,r.length,c5⟩ ⟨A6,R.length,c6⟩ h r R) (u' : Rd w ⟨B4,h'.length,d4⟩ ⟨B5,r'.length,d5⟩ ⟨B6,R'.length,d6⟩ h' r' R')
  (K1 : Aside0 (impl_SketchOk.f k c s lo hi h r R = some true)) (K2 : Aside0 (impl_SketchOk.f k c' s' lo' hi' h' r' R' = some false)) :
  Calls Try.prog 60 #[.agg #[vi c,vi s,vi lo,vi hi,.slice A4 h.length c4,.slice A5 r.length c5,.slice A6 R.length c6],.agg #[vi c',vi s',vi lo',vi hi',.slice B4 h'.length d4,.slice B5 r'.length d5,.slice B6 R'.length d6]] w (SkOut w 0 0 0 0 [] [] [] false) := by
 have U := mkA u
 have U' := mkA u'
 clear u u'
 go_enter Try.func60,Try.ntmps60
 have HB_1 := mkA ((below_alloc (Below.refl _ w) (.cells #[vi c,vi s,vi lo,vi hi,.slice A4 h.length c4,.slice A5 r.length c5,.slice A6 R.length c6] 27)))
 have Z_2 := mkA (show (w.alloc (.cells #[vi c,vi s,vi lo,vi hi,.slice A4 h.length c4,.slice A5 r.length c5,.slice A6 R.length c6] 27)).heap.size = w.heap.size + 1 by simp)
 have bxa_3 := mkA (Bx.new w 27 #[vi c,vi s,vi lo,vi hi,.slice A4 h.length c4,.slice A5 r.length c5,.slice A6 R.length c6])
 have bxa_4 := mkA (bxa_3.out.below (below_alloc (Below.refl _ (w.alloc (.cells #[vi c,vi s,vi lo,vi hi,.slice A4 h.length c4,.slice A5 r.length c5,.slice A6 R.length c6] 27))) (.cells #[vi c',vi s',vi lo',vi hi',.slice B4 h'.length d4,.slice B5 r'.length d5,.slice B6 R'.length d6] 27)))
 have HB_5 := mkA (below_step HB_1.out (below_alloc (Below.refl _ (w.alloc (.cells #[vi c,vi s,vi lo,vi hi,.slice A4 h.length c4,.slice A5 r.length c5,.slice A6 R.length c6] 27))) (.cells #[vi c',vi s',vi lo',vi hi',.slice B4 h'.length d4,.slice B5 r'.length d5,.slice B6 R'.length d6] 27)))
 have Z_6 := mkA (show ((w.alloc (.cells #[vi c,vi s,vi lo,vi hi,.slice A4 h.length c4,.slice A5 r.length c5,.slice A6 R.length c6] 27)).alloc (.cells #[vi c',vi s',vi lo',vi hi',.slice B4 h'.length d4,.slice B5 r'.length d5,.slice B6 R'.length d6] 27)).heap.size = w.heap.size + 1 + 1 by simp)
 have bxb_7 := mkA ((show Bx ((w.alloc (.cells #[vi c,vi s,vi lo,vi hi,.slice A4 h.length c4,.slice A5 r.length c5,.slice A6 R.length c6] 27)).alloc (.cells #[vi c',vi s',vi lo',vi hi',.slice B4 h'.length d4,.slice B5 r'.length d5,.slice B6 R'.length d6] 27)) (w.heap.size + 1) 27 #[vi c',vi s',vi lo',vi hi',.slice B4 h'.length d4,.slice B5 r'.length d5,.slice B6 R'.length d6] from (show (w.alloc (.cells #[vi c,vi s,vi lo,vi hi,.slice A4 h.length c4,.slice A5 r.length c5,.slice A6 R.length c6] 27)).heap.size = w.heap.size + 1 by simp) ▸ Bx.new (w.alloc (.cells #[vi c,vi s,vi lo,vi hi,.slice A4 h.length c4,.slice A5 r.length c5,.slice A6 R.length c6] 27)) 27 #[vi c',vi s',vi lo',vi hi',.slice B4 h'.length d4,.slice B5 r'.length d5,.slice B6 R'.length d6]))
 clear bxa_3 HB_1
 have bxa_8 := mkA (bxa_4.out.below (below_alloc (Below.refl _ ((w.alloc (.cells #[vi c,vi s,vi lo,vi hi,.slice A4 h.length c4,.slice A5 r.length c5,.slice A6 R.length c6] 27)).alloc (.cells #[vi c',vi s',vi lo',vi hi',.slice B4 h'.length d4,.slice B5 r'.length d5,.slice B6 R'.length d6] 27))) (.cells #[vi 0,vi 0,vi 0,vi 0,.slice none 0 0,.slice none 0 0,.slice none 0 0] 27)))
 have bxb_9 := mkA (bxb_7.out.below (below_alloc (Below.refl _ ((w.alloc (.cells #[vi c,vi s,vi lo,vi hi,.slice A4 h.length c4,.slice A5 r.length c5,.slice A6 R.length c6] 27)).alloc (.cells #[vi c',vi s',vi lo',vi hi',.slice B4 h'.length d4,.slice B5 r'.length d5,.slice B6 R'.length d6] 27))) (.cells #[vi 0,vi 0,vi 0,vi 0,.slice none 0 0,.slice none 0 0,.slice none 0 0] 27)))
 have HB_10 := mkA (below_step HB_5.out (below_alloc (Below.refl _ ((w.alloc (.cells #[vi c,vi s,vi lo,vi hi,.slice A4 h.length c4,.slice A5 r.length c5,.slice A6 R.length c6] 27)).alloc (.cells #[vi c',vi s',vi lo',vi hi',.slice B4 h'.length d4,.slice B5 r'.length d5,.slice B6 R'.length d6] 27))) (.cells #[vi 0,vi 0,vi 0,vi 0,.slice none 0 0,.slice none 0 0,.slice none 0 0] 27)))
 have Z_11 := mkA (show (((w.alloc (.cells #[vi c,vi s,vi lo,vi hi,.slice A4 h.length c4,.slice A5 r.length c5,.slice A6 R.length c6] 27)).alloc (.cells #[vi c',vi s',vi lo',vi hi',.slice B4 h'.length d4,.slice B5 r'.length d5,.slice B6 R'.length d6] 27)).alloc (.cells #[vi 0,vi 0,vi 0,vi 0,.slice none 0 0,.slice none 0 0,.slice none 0 0] 27)).heap.size = w.heap.size + 1 + 1 + 1 by simp)
 have bxo_12 := mkA ((show Bx (((w.alloc (.cells #[vi c,vi s,vi lo,vi hi,.slice A4 h.length c4,.slice A5 r.length c5,.slice A6 R.length c6] 27)).alloc (.cells #[vi c',vi s',vi lo',vi hi',.slice B4 h'.length d4,.slice B5 r'.length d5,.slice B6 R'.length d6] 27)).alloc (.cells #[vi 0,vi 0,vi 0,vi 0,.slice none 0 0,.slice none 0 0,.slice none 0 0] 27)) (w.heap.size + 1 + 1) 27 #[vi 0,vi 0,vi 0,vi 0,.slice none 0 0,.slice none 0 0,.slice none 0 0] from (show ((w.alloc (.cells #[vi c,vi s,vi lo,vi hi,.slice A4 h.length c4,.slice A5 r.length c5,.slice A6 R.length c6] 27)).alloc (.cells #[vi c',vi s',vi lo',vi hi',.slice B4 h'.length d4,.slice B5 r'.length d5,.slice B6 R'.length d6] 27)).heap.size = w.heap.size + 1 + 1 by simp) ▸ Bx.new ((w.alloc (.cells #[vi c,vi s,vi lo,vi hi,.slice A4 h.length c4,.slice A5 r.length c5,.slice A6 R.length c6] 27)).alloc (.cells #[vi c',vi s',vi lo',vi hi',.slice B4 h'.length d4,.slice B5 r'.length d5,.slice B6 R'.length d6] 27)) 27 #[vi 0,vi 0,vi 0,vi 0,.slice none 0 0,.slice none 0 0,.slice none 0 0]))
 clear bxa_4 bxb_7 HB_5
 go_wp2_with fail
 refine (impl_Merge.ok k c s lo hi true (U.out.below HB_10.out) K1.out).mono ?_
 rintro e w1 ⟨rfl,hb⟩
 have bxa_13 := mkA (bxa_8.out.below hb)
 have bxb_14 := mkA (bxb_9.out.below hb)
 have bxo_15 := mkA (bxo_12.out.below hb)
 have HB_16 := mkA (below_step HB_10.out hb)
 have Z_17 := mkA (hb.size)
 clear bxa_8 bxb_9 bxo_12 HB_10 hb
 obtain ⟨bxb17c0,bxb17c1,bxb17c2,bxb17c3,bxb17c4,bxb17c5,bxb17c6⟩ := bxb_14.out.cells
 go_wp2_with fail
 clear bxb17c0 bxb17c1 bxb17c2 bxb17c3 bxb17c4 bxb17c5 bxb17c6
 refine (impl_Merge.ok k c' s' lo' hi' false (U'.out.below HB_16.out) K2.out).mono ?_
 rintro e w2 ⟨rfl,hb⟩
 have bxa_19 := mkA (bxa_13.out.below hb)
 have bxb_20 := mkA (bxb_14.out.below hb)
 have bxo_21 := mkA (bxo_15.out.below hb)
 have HB_22 := mkA (below_step HB_16.out hb)
 have Z_23 := mkA (hb.size)
 clear bxa_13 bxb_14 bxo_15 HB_16 hb
 obtain ⟨bxo23c0,bxo23c1,bxo23c2,bxo23c3,bxo23c4,bxo23c5,bxo23c6⟩ := bxo_21.out.cells
 have eQ := bxo_21.out.fz
 go_wp2
 refine bodyPost_ret (results_ct rfl _ _ (w.heap.size + 1 + 1) 27 #[vi 0,vi 0,vi 0,vi 0,.slice none 0 0,.slice none 0 0,.slice none 0 0] (0,0) _ rfl (bxo_21.out.fill _ _ _ _ _ _ _).1 Try.underlying27 rfl (by kernel_rfl)) rfl ?_
 exact ⟨⟨none,0,0⟩,⟨none,0,0⟩,⟨none,0,0⟩,_,_,rfl,Sk.nil _ w.heap.size w.heap.size,⟨Nat.le_refl _,Nat.le_refl _,Nat.le_trans HB_22.out.size (bxo_21.out.fill _ _ _ _ _ _ _).2.kept.1⟩,below_kp HB_22.out (bxo_21.out.fill _ _ _ _ _ _ _).2 (by omega) HB_22.out.size⟩
theorem impl_Merge.yes (k : Nat) (c s lo hi c' s' lo' hi' : Int) {A4 A5 A6 B4 B5 B6 : Option Addr} {c4 c5 c6 d4 d5 d6 : Nat} {h r h' r' : List Int} {R R' : List (List Int)} (w : World) (u : Rd w ⟨A4,h.length,c4⟩ ⟨A5,r.length,c5⟩ ⟨A6,R.length,c6⟩ h r R) (u' : Rd w ⟨B4,h'.length,d4⟩ ⟨B5,r'.length,d5⟩ ⟨B6,R'.length,d6⟩ h' r' R')
  (K1 : Aside0 (impl_SketchOk.f k c s lo hi h r R = some true)) (K2 : Aside0 (impl_SketchOk.f k c' s' lo' hi' h' r' R' = some true)) (K3 : Aside0 (impl_copySketch.f k c s lo hi h r R = some (c,s,lo,hi,h,r,R)))
  (L : Aside0 (h.length = 8 ∧ r.length = 8 ∧ R.length = 2 ∧ h'.length = 8 ∧ r'.length = 8 ∧ R'.length = 2)) (m2 m3 : Int) (e3 : mx hi hi' = m3) (fe : (if hi < hi' then hi' else hi) = m3) (eS : Aside0 (impl_Add.f c c' = some (sadd c c'))) (eT : Aside0 (impl_Add.f s s' = some (sadd s s')))
  (HZ RZ : List Int) (WZ : List (List Int)) (LZ : Aside0 (HZ.length = 8 ∧ RZ.length = 8 ∧ WZ.length = 2)) (AH : Aside0 (∀ i,i < 8 → impl_Add.f (h.getD i 0) (h'.getD i 0) = some (HZ.getD i 0))) (AR : Aside0 (∀ i,i < 8 → mx (r.getD i 0) (r'.getD i 0) = RZ.getD i 0))
  (eU : Aside0 (∀ i,i < 2 → (WZ.getD i []).length = 4 ∧ (R.getD i []).length = 4 ∧ (R'.getD i []).length = 4 ∧ ∀ j,j < 4 → impl_Add.f ((R.getD i []).getD j 0) ((R'.getD i []).getD j 0) = some ((WZ.getD i []).getD j 0)))
  (HQ : Aside0 (((c == 0) = true ∧ m2 = lo') ∨ ((c == 0) = false ∧ decide (c' > 0) = false ∧ m2 = lo) ∨ ((c == 0) = false ∧ decide (c' > 0) = true ∧ decide (lo' < lo) = true ∧ m2 = lo') ∨ ((c == 0) = false ∧ decide (c' > 0) = true ∧ decide (lo' < lo) = false ∧ m2 = lo))) :
  Calls Try.prog 60 #[.agg #[vi c,vi s,vi lo,vi hi,.slice A4 h.length c4,.slice A5 r.length c5,.slice A6 R.length c6],.agg #[vi c',vi s',vi lo',vi hi',.slice B4 h'.length d4,.slice B5 r'.length d5,.slice B6 R'.length d6]] w (SkOut w (sadd c c') (sadd s s') m2 m3 HZ RZ WZ true) := by
 have U := mkA u
 have U' := mkA u'
 clear u u'
 obtain ⟨q1,hm⟩ | ⟨q1,q2,hm⟩ | ⟨q1,q2,q3,hm⟩ | ⟨q1,q2,q3,hm⟩ := HQ.out
 all_goals
  have HM := mkA hm
  clear hm
  go_enter Try.func60,Try.ntmps60
  have HB_1 := mkA ((below_alloc (Below.refl _ w) (.cells #[vi c,vi s,vi lo,vi hi,.slice A4 h.length c4,.slice A5 r.length c5,.slice A6 R.length c6] 27)))
  have Z_2 := mkA (show (w.alloc (.cells #[vi c,vi s,vi lo,vi hi,.slice A4 h.length c4,.slice A5 r.length c5,.slice A6 R.length c6] 27)).heap.size = w.heap.size + 1 by simp)
  have bxa_3 := mkA (Bx.new w 27 #[vi c,vi s,vi lo,vi hi,.slice A4 h.length c4,.slice A5 r.length c5,.slice A6 R.length c6])
  have bxa_4 := mkA (bxa_3.out.below (below_alloc (Below.refl _ (w.alloc (.cells #[vi c,vi s,vi lo,vi hi,.slice A4 h.length c4,.slice A5 r.length c5,.slice A6 R.length c6] 27))) (.cells #[vi c',vi s',vi lo',vi hi',.slice B4 h'.length d4,.slice B5 r'.length d5,.slice B6 R'.length d6] 27)))
  have HB_5 := mkA (below_step HB_1.out (below_alloc (Below.refl _ (w.alloc (.cells #[vi c,vi s,vi lo,vi hi,.slice A4 h.length c4,.slice A5 r.length c5,.slice A6 R.length c6] 27))) (.cells #[vi c',vi s',vi lo',vi hi',.slice B4 h'.length d4,.slice B5 r'.length d5,.slice B6 R'.length d6] 27)))
  have Z_6 := mkA (show ((w.alloc (.cells #[vi c,vi s,vi lo,vi hi,.slice A4 h.length c4,.slice A5 r.length c5,.slice A6 R.length c6] 27)).alloc (.cells #[vi c',vi s',vi lo',vi hi',.slice B4 h'.length d4,.slice B5 r'.length d5,.slice B6 R'.length d6] 27)).heap.size = w.heap.size + 1 + 1 by simp)
  have bxb_7 := mkA ((show Bx ((w.alloc (.cells #[vi c,vi s,vi lo,vi hi,.slice A4 h.length c4,.slice A5 r.length c5,.slice A6 R.length c6] 27)).alloc (.cells #[vi c',vi s',vi lo',vi hi',.slice B4 h'.length d4,.slice B5 r'.length d5,.slice B6 R'.length d6] 27)) (w.heap.size + 1) 27 #[vi c',vi s',vi lo',vi hi',.slice B4 h'.length d4,.slice B5 r'.length d5,.slice B6 R'.length d6] from (show (w.alloc (.cells #[vi c,vi s,vi lo,vi hi,.slice A4 h.length c4,.slice A5 r.length c5,.slice A6 R.length c6] 27)).heap.size = w.heap.size + 1 by simp) ▸ Bx.new (w.alloc (.cells #[vi c,vi s,vi lo,vi hi,.slice A4 h.length c4,.slice A5 r.length c5,.slice A6 R.length c6] 27)) 27 #[vi c',vi s',vi lo',vi hi',.slice B4 h'.length d4,.slice B5 r'.length d5,.slice B6 R'.length d6]))
  clear bxa_3 HB_1
  have bxa_8 := mkA (bxa_4.out.below (below_alloc (Below.refl _ ((w.alloc (.cells #[vi c,vi s,vi lo,vi hi,.slice A4 h.length c4,.slice A5 r.length c5,.slice A6 R.length c6] 27)).alloc (.cells #[vi c',vi s',vi lo',vi hi',.slice B4 h'.length d4,.slice B5 r'.length d5,.slice B6 R'.length d6] 27))) (.cells #[vi 0,vi 0,vi 0,vi 0,.slice none 0 0,.slice none 0 0,.slice none 0 0] 27)))
  have bxb_9 := mkA (bxb_7.out.below (below_alloc (Below.refl _ ((w.alloc (.cells #[vi c,vi s,vi lo,vi hi,.slice A4 h.length c4,.slice A5 r.length c5,.slice A6 R.length c6] 27)).alloc (.cells #[vi c',vi s',vi lo',vi hi',.slice B4 h'.length d4,.slice B5 r'.length d5,.slice B6 R'.length d6] 27))) (.cells #[vi 0,vi 0,vi 0,vi 0,.slice none 0 0,.slice none 0 0,.slice none 0 0] 27)))
  have HB_10 := mkA (below_step HB_5.out (below_alloc (Below.refl _ ((w.alloc (.cells #[vi c,vi s,vi lo,vi hi,.slice A4 h.length c4,.slice A5 r.length c5,.slice A6 R.length c6] 27)).alloc (.cells #[vi c',vi s',vi lo',vi hi',.slice B4 h'.length d4,.slice B5 r'.length d5,.slice B6 R'.length d6] 27))) (.cells #[vi 0,vi 0,vi 0,vi 0,.slice none 0 0,.slice none 0 0,.slice none 0 0] 27)))
  have Z_11 := mkA (show (((w.alloc (.cells #[vi c,vi s,vi lo,vi hi,.slice A4 h.length c4,.slice A5 r.length c5,.slice A6 R.length c6] 27)).alloc (.cells #[vi c',vi s',vi lo',vi hi',.slice B4 h'.length d4,.slice B5 r'.length d5,.slice B6 R'.length d6] 27)).alloc (.cells #[vi 0,vi 0,vi 0,vi 0,.slice none 0 0,.slice none 0 0,.slice none 0 0] 27)).heap.size = w.heap.size + 1 + 1 + 1 by simp)
  have bxo_12 := mkA ((show Bx (((w.alloc (.cells #[vi c,vi s,vi lo,vi hi,.slice A4 h.length c4,.slice A5 r.length c5,.slice A6 R.length c6] 27)).alloc (.cells #[vi c',vi s',vi lo',vi hi',.slice B4 h'.length d4,.slice B5 r'.length d5,.slice B6 R'.length d6] 27)).alloc (.cells #[vi 0,vi 0,vi 0,vi 0,.slice none 0 0,.slice none 0 0,.slice none 0 0] 27)) (w.heap.size + 1 + 1) 27 #[vi 0,vi 0,vi 0,vi 0,.slice none 0 0,.slice none 0 0,.slice none 0 0] from (show ((w.alloc (.cells #[vi c,vi s,vi lo,vi hi,.slice A4 h.length c4,.slice A5 r.length c5,.slice A6 R.length c6] 27)).alloc (.cells #[vi c',vi s',vi lo',vi hi',.slice B4 h'.length d4,.slice B5 r'.length d5,.slice B6 R'.length d6] 27)).heap.size = w.heap.size + 1 + 1 by simp) ▸ Bx.new ((w.alloc (.cells #[vi c,vi s,vi lo,vi hi,.slice A4 h.length c4,.slice A5 r.length c5,.slice A6 R.length c6] 27)).alloc (.cells #[vi c',vi s',vi lo',vi hi',.slice B4 h'.length d4,.slice B5 r'.length d5,.slice B6 R'.length d6] 27)) 27 #[vi 0,vi 0,vi 0,vi 0,.slice none 0 0,.slice none 0 0,.slice none 0 0]))
  clear bxa_4 bxb_7 HB_5
  go_wp2_with fail
  refine (impl_Merge.ok k c s lo hi true (U.out.below HB_10.out) K1.out).mono ?_
  rintro e w1 ⟨rfl,hb⟩
  have bxa_13 := mkA (bxa_8.out.below hb)
  have bxb_14 := mkA (bxb_9.out.below hb)
  have bxo_15 := mkA (bxo_12.out.below hb)
  have HB_16 := mkA (below_step HB_10.out hb)
  have Z_17 := mkA (hb.size)
  clear bxa_8 bxb_9 bxo_12 HB_10 hb
  obtain ⟨bxb17c0,bxb17c1,bxb17c2,bxb17c3,bxb17c4,bxb17c5,bxb17c6⟩ := bxb_14.out.cells
  go_wp2_with fail
  clear bxb17c0 bxb17c1 bxb17c2 bxb17c3 bxb17c4 bxb17c5 bxb17c6
  refine (impl_Merge.ok k c' s' lo' hi' true (U'.out.below HB_16.out) K2.out).mono ?_
  rintro e w2 ⟨rfl,hb⟩
  have bxa_19 := mkA (bxa_13.out.below hb)
  have bxb_20 := mkA (bxb_14.out.below hb)
  have bxo_21 := mkA (bxo_15.out.below hb)
  have HB_22 := mkA (below_step HB_16.out hb)
  have Z_23 := mkA (hb.size)
  clear bxa_13 bxb_14 bxo_15 HB_16 hb
  obtain ⟨bxa23c0,bxa23c1,bxa23c2,bxa23c3,bxa23c4,bxa23c5,bxa23c6⟩ := bxa_19.out.cells
  go_wp2_with fail
  clear bxa23c0 bxa23c1 bxa23c2 bxa23c3 bxa23c4 bxa23c5 bxa23c6
  refine (impl_Merge.cp k c s lo hi (U.out.below HB_22.out) K3.out).mono ?_
  rintro e w3 ⟨x1,y1,z1,a1,b1,rfl,hs,hm,hb⟩
  have S_25 := mkA hs
  clear hs
  have Z_26 := mkA hm
  clear hm
  unfold Made at Z_26
  have bxa_27 := mkA (bxa_19.out.below hb)
  have bxb_28 := mkA (bxb_20.out.below hb)
  have bxo_29 := mkA (bxo_21.out.below hb)
  have HB_30 := mkA (below_step HB_22.out hb)
  have Z_31 := mkA (hb.size)
  clear bxa_19 bxb_20 bxo_21 HB_22 hb
  obtain ⟨gx,cx,gy,cy,gz,cz,rfl,rfl,rfl⟩ := S_25.out.named (by have := L.out;omega) (by have := L.out;omega) (by have := L.out;omega)
  obtain ⟨bxa31c0,bxa31c1,bxa31c2,bxa31c3,bxa31c4,bxa31c5,bxa31c6⟩ := bxa_27.out.cellsA
  obtain ⟨bxb32c0,bxb32c1,bxb32c2,bxb32c3,bxb32c4,bxb32c5,bxb32c6⟩ := bxb_28.out.cellsA
  go_wp2_with fail
  clear bxa31c0 bxa31c1 bxa31c2 bxa31c3 bxa31c4 bxa31c5 bxa31c6 bxb32c0 bxb32c1 bxb32c2 bxb32c3 bxb32c4 bxb32c5 bxb32c6
  first | rw [show (#[vi c,vi s,vi lo',vi m3,.slice (some ⟨gx,0,none⟩) h.length cx,.slice (some ⟨gy,0,none⟩) r.length cy,.slice (some ⟨gz,0,none⟩) R.length cz] : Array Value) = #[vi c,vi s,vi m2,vi m3,.slice (some ⟨gx,0,none⟩) h.length cx,.slice (some ⟨gy,0,none⟩) r.length cy,.slice (some ⟨gz,0,none⟩) R.length cz] from by rw [HM.out]] | rw [show (#[vi c,vi s,vi lo,vi m3,.slice (some ⟨gx,0,none⟩) h.length cx,.slice (some ⟨gy,0,none⟩) r.length cy,.slice (some ⟨gz,0,none⟩) R.length cz] : Array Value) = #[vi c,vi s,vi m2,vi m3,.slice (some ⟨gx,0,none⟩) h.length cx,.slice (some ⟨gy,0,none⟩) r.length cy,.slice (some ⟨gz,0,none⟩) R.length cz] from by rw [HM.out]]
  have bxa_34 := mkA (bxa_27.out.below (below_alloc (Below.refl _ w3) (.cells #[vi c,vi s,vi m2,vi m3,.slice (some ⟨gx,0,none⟩) h.length cx,.slice (some ⟨gy,0,none⟩) r.length cy,.slice (some ⟨gz,0,none⟩) R.length cz] 27)))
  have bxb_35 := mkA (bxb_28.out.below (below_alloc (Below.refl _ w3) (.cells #[vi c,vi s,vi m2,vi m3,.slice (some ⟨gx,0,none⟩) h.length cx,.slice (some ⟨gy,0,none⟩) r.length cy,.slice (some ⟨gz,0,none⟩) R.length cz] 27)))
  have bxo_36 := mkA (bxo_29.out.below (below_alloc (Below.refl _ w3) (.cells #[vi c,vi s,vi m2,vi m3,.slice (some ⟨gx,0,none⟩) h.length cx,.slice (some ⟨gy,0,none⟩) r.length cy,.slice (some ⟨gz,0,none⟩) R.length cz] 27)))
  have S_37 := mkA (S_25.out.below (below_alloc (Below.refl _ w3) (.cells #[vi c,vi s,vi m2,vi m3,.slice (some ⟨gx,0,none⟩) h.length cx,.slice (some ⟨gy,0,none⟩) r.length cy,.slice (some ⟨gz,0,none⟩) R.length cz] 27)))
  have HB_38 := mkA (below_step HB_30.out (below_alloc (Below.refl _ w3) (.cells #[vi c,vi s,vi m2,vi m3,.slice (some ⟨gx,0,none⟩) h.length cx,.slice (some ⟨gy,0,none⟩) r.length cy,.slice (some ⟨gz,0,none⟩) R.length cz] 27)))
  have Z_39 := mkA (show (w3.alloc (.cells #[vi c,vi s,vi m2,vi m3,.slice (some ⟨gx,0,none⟩) h.length cx,.slice (some ⟨gy,0,none⟩) r.length cy,.slice (some ⟨gz,0,none⟩) R.length cz] 27)).heap.size = w3.heap.size + 1 by simp)
  have b7 := mkA (Bx.new w3 27 #[vi c,vi s,vi m2,vi m3,.slice (some ⟨gx,0,none⟩) h.length cx,.slice (some ⟨gy,0,none⟩) r.length cy,.slice (some ⟨gz,0,none⟩) R.length cz])
  clear bxa_27 bxb_28 bxo_29 S_25 HB_30
  refine (impl_Add.calls c c' (sadd c c') _ eS.out).mono ?_
  rintro e w4 ⟨rfl,hb⟩
  have bxa_41 := mkA (bxa_34.out.below hb)
  have bxb_42 := mkA (bxb_35.out.below hb)
  have bxo_43 := mkA (bxo_36.out.below hb)
  have S_44 := mkA (S_37.out.below hb)
  have a_ := mkA (b7.out.below hb)
  have HB_46 := mkA (below_step HB_38.out hb)
  have Z_47 := mkA (hb.size)
  clear bxa_34 bxb_35 bxo_36 S_37 b7 HB_38 hb
  obtain ⟨bxa47c0,bxa47c1,bxa47c2,bxa47c3,bxa47c4,bxa47c5,bxa47c6⟩ := bxa_41.out.cells
  obtain ⟨bxb48c0,bxb48c1,bxb48c2,bxb48c3,bxb48c4,bxb48c5,bxb48c6⟩ := bxb_42.out.cells
  obtain ⟨bx649c0,bx649c1,bx649c2,bx649c3,bx649c4,bx649c5,bx649c6⟩ := a_.out.cells
  have dZ := a_.out.fz
  have d_ : w.heap.size ≠ w3.heap.size := by have := Z_2.out;have := Z_6.out;have := Z_11.out;have := Z_17.out;have := Z_23.out;have := Z_26.out;have := Z_31.out;have := Z_39.out;have := Z_47.out;omega
  have ea : w3.heap.size ≠ w.heap.size := by have := Z_2.out;have := Z_6.out;have := Z_11.out;have := Z_17.out;have := Z_23.out;have := Z_26.out;have := Z_31.out;have := Z_39.out;have := Z_47.out;omega
  have eb : w.heap.size + 1 ≠ w3.heap.size := by have := Z_2.out;have := Z_6.out;have := Z_11.out;have := Z_17.out;have := Z_23.out;have := Z_26.out;have := Z_31.out;have := Z_39.out;have := Z_47.out;omega
  have ec : w3.heap.size ≠ w.heap.size + 1 := by have := Z_2.out;have := Z_6.out;have := Z_11.out;have := Z_17.out;have := Z_23.out;have := Z_26.out;have := Z_31.out;have := Z_39.out;have := Z_47.out;omega
  go_wp2_with fail
  clear bxa47c0 bxa47c1 bxa47c2 bxa47c3 bxa47c4 bxa47c5 bxa47c6 bxb48c0 bxb48c1 bxb48c2 bxb48c3 bxb48c4 bxb48c5 bxb48c6 bx649c0 bx649c1 bx649c2 bx649c3 bx649c4 bx649c5 bx649c6 dZ d_ ea eb ec
  have KS_56 := mkA (Kp.set (w := w4) (a := w3.heap.size) (b := w3.heap.size + 1) (j := 0) ⟨Nat.le_refl _,Nat.lt_succ_self _⟩ (vi (sadd c c')))
  have bxa_57 := mkA (bxa_41.out.kp KS_56.out Z15x4)
  have bxb_58 := mkA (bxb_42.out.kp KS_56.out Z15x4)
  have bxo_59 := mkA (bxo_43.out.kp KS_56.out Z15x4)
  have S_60 := mkA (S_44.out.kp KS_56.out Z15x4)
  have b8 := mkA (show Bx (w4.setCell ⟨w3.heap.size,0,none⟩ (vi (sadd c c'))) (w3.heap.size) 27 #[vi (sadd c c'),vi s,vi m2,vi m3,.slice (some ⟨gx,0,none⟩) h.length cx,.slice (some ⟨gy,0,none⟩) r.length cy,.slice (some ⟨gz,0,none⟩) R.length cz] from blk_put a_.out 0 _ rfl)
  have HB_62 := mkA (below_kp HB_46.out KS_56.out Z15x4 HB_46.out.size)
  have Z_63 := mkA (show (w4.setCell ⟨w3.heap.size,0,none⟩ (vi (sadd c c'))).heap.size = w4.heap.size by simp)
  clear bxa_41 bxb_42 bxo_43 S_44 a_ HB_46 KS_56
  refine (impl_Add.calls s s' (sadd s s') _ eT.out).mono ?_
  rintro e w5 ⟨rfl,hb⟩
  have bxa_64 := mkA (bxa_57.out.below hb)
  have bxb_65 := mkA (bxb_58.out.below hb)
  have bxo_66 := mkA (bxo_59.out.below hb)
  have S_67 := mkA (S_60.out.below hb)
  have ba := mkA (b8.out.below hb)
  have HB_69 := mkA (below_step HB_62.out hb)
  have Z_70 := mkA (hb.size)
  clear bxa_57 bxb_58 bxo_59 S_60 b8 HB_62 hb
  clear bxa_64
  obtain ⟨bxb70c0,bxb70c1,bxb70c2,bxb70c3,bxb70c4,bxb70c5,bxb70c6⟩ := bxb_65.out.cells
  obtain ⟨bx671c0,bx671c1,bx671c2,bx671c3,bx671c4,bx671c5,bx671c6⟩ := ba.out.cells
  have ed := ba.out.fz
  have ee : w.heap.size + 1 ≠ w3.heap.size := by have := Z_2.out;have := Z_6.out;have := Z_11.out;have := Z_17.out;have := Z_23.out;have := Z_26.out;have := Z_31.out;have := Z_39.out;have := Z_47.out;have := Z_63.out;have := Z_70.out;omega
  have ef : w3.heap.size ≠ w.heap.size + 1 := by have := Z_2.out;have := Z_6.out;have := Z_11.out;have := Z_17.out;have := Z_23.out;have := Z_26.out;have := Z_31.out;have := Z_39.out;have := Z_47.out;have := Z_63.out;have := Z_70.out;omega
  go_wp2_with fail
  clear bxb70c0 bxb70c1 bxb70c2 bxb70c3 bxb70c4 bxb70c5 bxb70c6 bx671c0 bx671c1 bx671c2 bx671c3 bx671c4 bx671c5 bx671c6 ed ee ef
  have KS_76 := mkA (Kp.set (w := w5) (a := w3.heap.size) (b := w3.heap.size + 1) (j := 1) ⟨Nat.le_refl _,Nat.lt_succ_self _⟩ (vi (sadd s s')))
  have bxb_77 := mkA (bxb_65.out.kp KS_76.out Z15x5)
  have bxo_78 := mkA (bxo_66.out.kp KS_76.out Z15x5)
  have S_79 := mkA (S_67.out.kp KS_76.out Z15x5)
  have b9 := mkA (show Bx (w5.setCell ⟨w3.heap.size,1,none⟩ (vi (sadd s s'))) (w3.heap.size) 27 #[vi (sadd c c'),vi (sadd s s'),vi m2,vi m3,.slice (some ⟨gx,0,none⟩) h.length cx,.slice (some ⟨gy,0,none⟩) r.length cy,.slice (some ⟨gz,0,none⟩) R.length cz] from blk_put ba.out 1 _ rfl)
  have HB_81 := mkA (below_kp HB_69.out KS_76.out Z15x5 HB_69.out.size)
  have Z_82 := mkA (show (w5.setCell ⟨w3.heap.size,1,none⟩ (vi (sadd s s'))).heap.size = w5.heap.size by simp)
  clear bxb_65 bxo_66 S_67 ba HB_69 KS_76

  go_loopg [65] 8 (fun gg s1 wr => ∃ i : Nat,i ≤ 8 ∧ 8 - i ≤ gg ∧ s1 = vi i ∧ Aside0 (MInv w wr a1 b1 (w.heap.size + 1) (w.heap.size + 1 + 1) w3.heap.size ⟨some ⟨gx,0,none⟩,h.length,cx⟩ ⟨some ⟨gy,0,none⟩,r.length,cy⟩ ⟨some ⟨gz,0,none⟩,R.length,cz⟩ #[vi c',vi s',vi lo',vi hi',.slice B4 h'.length d4,.slice B5 r'.length d5,.slice B6 R'.length d6] #[vi (sadd c c'),vi (sadd s s'),vi m2,vi m3,.slice (some ⟨gx,0,none⟩) h.length cx,.slice (some ⟨gy,0,none⟩) r.length cy,.slice (some ⟨gz,0,none⟩) R.length cz] (mix2 HZ h i) r R))
  case atStart => exact ⟨0,by omega,by omega,rfl,⟨⟨by rw [mix2_zero];exact S_79.out,bxb_77.out,bxo_78.out,b9.out,HB_81.out,Z15x3,Z15x3,Z15x3,Z15x3⟩⟩⟩
  case round =>
   clear bxb_77 bxo_78 S_79 b9 HB_81
   obtain ⟨i,hi,hg,rfl,M⟩ := hrel
   obtain ⟨l1,l2,l3,l4,l5,l6⟩ := L.out
   by_cases hlt : i < 8
   ·have hltz : (i : Int) < (h'.length : Int) := by omega
    have cf : (i : Int) < (h.length : Int) := by omega
    have h0z : (0 : Int) ≤ (i : Int) := by omega
    have zl : HZ.length = h.length := by have := LZ.out;omega
    have UC : (Kd.int .i64).C wr B4 h'.length h' := (U'.out.below M.out.L).C4;obtain ⟨ad,eB,gB⟩ := ints_at UC i (by omega);have M1 := mkA (M.out.below (below_drew (Below.refl _ wr)));obtain ⟨P,_⟩ := M.out.S.hN (by rw [mix2_length zl];omega);have pc := P.at_ (i := i) (by rw [mix2_length zl];omega);rw [mix2_getD zl (by omega)] at pc;have pf := P.fz i;have PUT := mkA ((M1.out.S.hN (by rw [mix2_length zl];omega)).2 i (HZ.getD i 0));rw [mix2_setD zl (by omega)] at PUT;have AHi := mkA (AH.out i hlt);obtain ⟨x0,x1,x2,x3,x4,x5,x6⟩ := M.out.X.cells;obtain ⟨n1,n2,n3,n4⟩ := M.out.ne6 P;clear P UC zl l1 l2 l3 l4 l5 l6;generalize h'.getD i 0 = v1 at *;generalize h.getD i 0 = v2 at *;generalize HZ.getD i 0 = v3 at *;subst eB
    go_wp2_with fail
    refine wp_region_still_tail 10 (by kernel_rfl) (by kernel_rfl) ?_;simp only [List.take_succ_cons,List.take_zero,List.drop_succ_cons,List.drop_zero]
    change wpStill _ _ wr.drew _ _ _
    repeat (first | still_step | still_call (impl_Add.still v2 v1 v3 _ AHi.out))
    refine wpStill_nil ?_
    change wpList _ _ _ _ _ wr.drew
    go_wp2
    go_roundg (8 - (i + 1))
    case measure => omega
    case rel => exact ⟨i + 1,by omega,by omega,by go_num,⟨M1.out.kp PUT.out.2 PUT.out.1⟩⟩
   ·have : i = 8 := by omega
    subst this;rw [mix2_all (by have := LZ.out;omega) (by omega)] at M
    have hltz : ¬ ((8 : Nat) : Int) < (h'.length : Int) := by omega
    clear l1 l2 l3 l4 l5 l6 hg hi hlt;obtain ⟨x0,x1,x2,x3,x4,x5,x6⟩ := M.out.B.cells
    go_wp2
    clear hltz x0 x1 x2 x3 x4 x5 x6

    go_loopg [85] 8 (fun gg s1 wr => ∃ i : Nat,i ≤ 8 ∧ 8 - i ≤ gg ∧ s1 = vi i ∧ Aside0 (MInv w wr a1 b1 (w.heap.size + 1) (w.heap.size + 1 + 1) w3.heap.size ⟨some ⟨gx,0,none⟩,h.length,cx⟩ ⟨some ⟨gy,0,none⟩,r.length,cy⟩ ⟨some ⟨gz,0,none⟩,R.length,cz⟩ #[vi c',vi s',vi lo',vi hi',.slice B4 h'.length d4,.slice B5 r'.length d5,.slice B6 R'.length d6] #[vi (sadd c c'),vi (sadd s s'),vi m2,vi m3,.slice (some ⟨gx,0,none⟩) h.length cx,.slice (some ⟨gy,0,none⟩) r.length cy,.slice (some ⟨gz,0,none⟩) R.length cz] HZ (mix2 RZ r i) R))
    case atStart => exact ⟨0,by omega,by omega,rfl,⟨by rw [mix2_zero];exact M.out⟩⟩
    case round =>
     clear M;obtain ⟨i,hi,hg,rfl,M⟩ := hrel;obtain ⟨l1,l2,l3,l4,l5,l6⟩ := L.out
     by_cases hlt : i < 8
     ·have hltz : (i : Int) < (r'.length : Int) := by omega
      have cf : (i : Int) < (r.length : Int) := by omega
      have h0z : (0 : Int) ≤ (i : Int) := by omega
      have zl : RZ.length = r.length := by have := LZ.out;omega
      have UC : (Kd.int .i64).C wr B5 r'.length r' := (U'.out.below M.out.L).C5;obtain ⟨ad,eB,gB⟩ := ints_at UC i (by omega);have M1 := mkA (M.out.below (below_drew (Below.refl _ wr)));obtain ⟨P,_⟩ := M.out.S.rN (by rw [mix2_length zl];omega);have pc := P.at_ (i := i) (by rw [mix2_length zl];omega);rw [mix2_getD zl (by omega)] at pc;have pf := P.fz i;have PUT := mkA ((M1.out.S.rN (by rw [mix2_length zl];omega)).2 i (RZ.getD i 0));rw [mix2_setD zl (by omega)] at PUT;have AHi := AR.out i hlt;have AHj : (if r.getD i 0 < r'.getD i 0 then r'.getD i 0 else r.getD i 0) = RZ.getD i 0 := AHi;obtain ⟨x0,x1,x2,x3,x4,x5,x6⟩ := M.out.X.cells;obtain ⟨n1,n2,n3,n4⟩ := M.out.ne6 P;clear P UC zl l1 l2 l3 l4 l5 l6;generalize r'.getD i 0 = v1 at *;generalize r.getD i 0 = v2 at *;generalize RZ.getD i 0 = v3 at *;subst eB
      go_wp2_with fail
      refine wp_region_still_tail 10 (by kernel_rfl) (by kernel_rfl) ?_;simp only [List.take_succ_cons,List.take_zero,List.drop_succ_cons,List.drop_zero]
      change wpStill _ _ wr.drew _ _ _
      repeat (first | still_step)
      refine wpStill_nil ?_
      change wpList _ _ _ _ _ wr.drew
      go_wp2
      go_roundg (8 - (i + 1))
      case measure => omega
      case rel => exact ⟨i + 1,by omega,by omega,by go_num,⟨M1.out.kp PUT.out.2 PUT.out.1⟩⟩
     ·have : i = 8 := by omega
      subst this;rw [mix2_all (by have := LZ.out;omega) (by omega)] at M
      have hltz : ¬ ((8 : Nat) : Int) < (r'.length : Int) := by omega
      clear l1 l2 l3 l4 l5 l6 hg hi hlt;obtain ⟨x0,x1,x2,x3,x4,x5,x6⟩ := M.out.B.cells
      go_wp2
      clear hltz x0 x1 x2 x3 x4 x5 x6

      go_loopg [105] 2 (fun gg s1 wr => ∃ i : Nat,i ≤ 2 ∧ 2 - i ≤ gg ∧ s1 = vi i ∧ Aside0 (MInv w wr a1 b1 (w.heap.size + 1) (w.heap.size + 1 + 1) w3.heap.size ⟨some ⟨gx,0,none⟩,h.length,cx⟩ ⟨some ⟨gy,0,none⟩,r.length,cy⟩ ⟨some ⟨gz,0,none⟩,R.length,cz⟩ #[vi c',vi s',vi lo',vi hi',.slice B4 h'.length d4,.slice B5 r'.length d5,.slice B6 R'.length d6] #[vi (sadd c c'),vi (sadd s s'),vi m2,vi m3,.slice (some ⟨gx,0,none⟩) h.length cx,.slice (some ⟨gy,0,none⟩) r.length cy,.slice (some ⟨gz,0,none⟩) R.length cz] HZ RZ (mix2 WZ R i)))
      case atStart => exact ⟨0,by omega,by omega,rfl,⟨by rw [mix2_zero];exact M.out⟩⟩
      case round =>
       clear M;obtain ⟨i,hi,hg,rfl,M⟩ := hrel
       by_cases hlt : i < 2
       ·have hltz : (i : Int) < (R'.length : Int) := by have := L.out;omega
        have h0z : (0 : Int) ≤ (i : Int) := by omega
        obtain ⟨ad,B0,c0,eB,gB,UC⟩ := rows_at U'.out.C6 i (by have := L.out;show i < R'.length;omega);have eE := pw_cell_below M.out.L gB;obtain ⟨w1,w2,eV,AW⟩ := eU.out i hlt;have WL := mkA (show (WZ.getD i []).length = (R.getD i []).length ∧ (R'.getD i []).length = 4 ∧ (R.getD i []).length = 4 from by omega);have UCA := mkA UC;have AWA := mkA AW;have eW : B6 = some ad := eB;clear gB eB UC AW w1 w2 eV;generalize hq' : R'.getD i [] = q' at *;generalize hq : R.getD i [] = q at *;generalize hQ : WZ.getD i [] = Q at *;have Q1 := mkA hq;have Q2 := mkA hQ;clear hq hq' hQ;subst eW
        go_wp2
        go_loopg [112] 4 (fun gg s1 wr => ∃ j : Nat,j ≤ 4 ∧ 4 - j ≤ gg ∧ s1 = vi j ∧ Aside0 (MInv w wr a1 b1 (w.heap.size + 1) (w.heap.size + 1 + 1) w3.heap.size ⟨some ⟨gx,0,none⟩,h.length,cx⟩ ⟨some ⟨gy,0,none⟩,r.length,cy⟩ ⟨some ⟨gz,0,none⟩,R.length,cz⟩ #[vi c',vi s',vi lo',vi hi',.slice B4 h'.length d4,.slice B5 r'.length d5,.slice (some ad) R'.length d6] #[vi (sadd c c'),vi (sadd s s'),vi m2,vi m3,.slice (some ⟨gx,0,none⟩) h.length cx,.slice (some ⟨gy,0,none⟩) r.length cy,.slice (some ⟨gz,0,none⟩) R.length cz] HZ RZ ((mix2 WZ R i).set i (mix2 Q q j))))
        case atStart => exact ⟨0,by omega,by omega,rfl,⟨by
         have e : (mix2 WZ R i).getD i [] = q := by rw [mix2_getD (by have := LZ.out;have := L.out;omega) (by have := L.out;omega),Q1.out]
         rw [mix2_zero,← e,set_same (by rw [mix2_length (by have := LZ.out;have := L.out;omega)];have := L.out;omega)]
         exact M.out⟩⟩
        case round =>
         clear M eE;obtain ⟨j,hj,hgj,rfl,M⟩ := hrel
         have iR : i < (mix2 WZ R i).length := by rw [mix2_length (by have := LZ.out;have := L.out;omega)];have := L.out;omega
         by_cases hjt : j < 4
         ·have hjz : (j : Int) < (q'.length : Int) := by have := WL.out;omega
          have eX : (j : Int) < (q.length : Int) := by have := WL.out;omega
          have eY : (0 : Int) ≤ (j : Int) := by omega
          have eZ : (i : Int) < (R.length : Int) := by have := L.out;omega
          obtain ⟨ff,e_,eE⟩ := ints_at (Kd.C_below UCA.out M.out.L) j (by have := WL.out;omega);have M1 := mkA (M.out.below (below_drew (Below.refl _ wr)));have zl : Q.length = q.length := WL.out.1
          have eg : i < ((mix2 WZ R i).set i (mix2 Q q j)).length := by rw [List.length_set];exact iR
          have eR : ((mix2 WZ R i).set i (mix2 Q q j))[i] = mix2 Q q j := List.getElem_set_self _
          have eL : ((mix2 WZ R i).set i (mix2 Q q j))[i].length = q.length := by rw [eR,mix2_length zl]
          obtain ⟨p,cp,gp,P,eh⟩ := M.out.S.rowN i eg (by rw [eL];have := WL.out;omega);obtain ⟨p1,fa,eF,P1,cg⟩ := M1.out.S.rowN i eg (by rw [eL];have := WL.out;omega)
          have hpp : p1 = p ∧ fa = cp := by
           have h9 : wr.cell? ⟨gz,i,none⟩ = _ := eF;rw [gp] at h9;simp only [Option.some.injEq,Value.slice.injEq,Addr.mk.injEq] at h9;exact ⟨h9.1.1.symm,h9.2.2.symm⟩
          obtain ⟨rfl,rfl⟩ := hpp;rw [eL] at gp;have pc := P.at_ (i := j) (by rw [eL];have := WL.out;omega);have pf := P.fz j;have PUT := mkA (cg j (Q.getD j 0));rw [eR] at pc PUT;rw [mix2_getD zl (by omega)] at pc;rw [mix2_setD zl (by omega),List.set_set] at PUT;have AHi := mkA (AWA.out j hjt);obtain ⟨x0,x1,x2,x3,x4,x5,x6⟩ := M.out.X.cells;obtain ⟨n1,n2,n3,n4⟩ := M.out.ne6 P;clear eh cg;clear P P1 eF zl eR eL eg iR;generalize q'.getD j 0 = v1 at *;generalize q.getD j 0 = v2 at *;generalize Q.getD j 0 = v3 at *;subst e_
          go_wp2_with fail
          refine wp_region_still_tail 16 (by kernel_rfl) (by kernel_rfl) ?_;simp only [List.take_succ_cons,List.take_zero,List.drop_succ_cons,List.drop_zero]
          change wpStill _ _ wr.drew _ _ _
          repeat (first | still_step | still_call (impl_Add.still v2 v1 v3 _ AHi.out))
          refine wpStill_nil ?_
          change wpList _ _ _ _ _ wr.drew
          go_wp2
          go_roundg (4 - (j + 1))
          case measure => omega
          case rel => exact ⟨j + 1,by omega,by omega,by go_num,⟨M1.out.kp PUT.out.2 PUT.out.1⟩⟩
         ·have : j = 4 := by omega
          subst this
          have hjz : ¬ ((4 : Nat) : Int) < (q'.length : Int) := by have := WL.out;omega
          rw [mix2_all WL.out.1 (by have := WL.out;omega),← Q2.out,mix2_setD (by have := LZ.out;have := L.out;omega) (by have := L.out;omega)] at M;clear iR
          go_wp2
          go_roundg (2 - (i + 1))
          case measure => omega
          case rel => exact ⟨i + 1,by omega,by omega,by go_num,⟨M.out⟩⟩
       ·have : i = 2 := by omega
        subst this
        have hltz : ¬ ((2 : Nat) : Int) < (R'.length : Int) := by have := L.out;omega
        rw [mix2_all (by have := LZ.out;have := L.out;omega) (by have := L.out;omega)] at M;obtain ⟨x0,x1,x2,x3,x4,x5,x6⟩ := M.out.X.cells;obtain ⟨y0,y1,y2,y3,y4,y5,y6⟩ := M.out.O.cells;have fo := M.out.O.fz
        go_wp2
        refine bodyPost_ret (results_ct rfl _ _ (w.heap.size + 1 + 1) 27 #[vi (sadd c c'),vi (sadd s s'),vi m2,vi m3,.slice (some ⟨gx,0,none⟩) h.length cx,.slice (some ⟨gy,0,none⟩) r.length cy,.slice (some ⟨gz,0,none⟩) R.length cz] (0,0) _ rfl (M.out.O.fill _ _ _ _ _ _ _).1 Try.underlying27 rfl (by kernel_rfl)) rfl ?_;exact M.out.out (by omega) Z15x3 _ _ _ _ _

def impl_Merge.f (k : Nat) (ae : Int) (aj : Int) (aV : Int) (au : Int) (aA : List Int) (aB : List Int) (aC : List (List Int)) (aW : Int) (bf : Int) (bj : Int) (b5 : Int) (aL : List Int) (aM : List Int) (aN : List (List Int)) : Option (Int × Int × Int × Int × List Int × List Int × (List (List Int)) × Bool) := (impl_SketchOk.f k ae aj aV au aA aB aC).bind fun t1 => if t1 = true then ((impl_SketchOk.f k aW bf bj b5 aL aM aN).bind fun t2 => if t2 = true then ((impl_copySketch.f k ae aj aV au aA aB aC).bind fun t => if (t.1 = ae ∧ t.2.1 = aj ∧ t.2.2.1 = aV ∧ t.2.2.2.1 = au ∧ t.2.2.2.2.1 = aA ∧ t.2.2.2.2.2.1 = aB ∧ t.2.2.2.2.2.2 = aC) ∧ impl_Merge.G ae aj aA aB aC aW bf aL aM aN then some (sadd ae aW,sadd aj bf,impl_Merge.lo ae aV aW bj,mx au b5,List.zipWith sadd aA aL,List.zipWith hi2 aB aM,List.zipWith (List.zipWith sadd) aC aN,true) else none) else some (0,0,0,0,[],[],[],false)) else some (0,0,0,0,[],[],[],false)
theorem impl_Merge.calls (k : Nat) (ae : Int) (aj : Int) (aV : Int) (au : Int) (bE : Option Addr) (bF : Nat) (aA : List Int) (bG : Option Addr) (bH : Nat) (aB : List Int) (bI : Option Addr) (bJ : Nat) (aC : List (List Int)) (aW : Int) (bf : Int) (bj : Int) (b5 : Int) (bK : Option Addr) (bL : Nat) (aL : List Int) (bM : Option Addr) (bN : Nat) (aM : List Int) (bO : Option Addr) (bP : Nat) (aN : List (List Int)) (r1 : Int) (r2 : Int) (r3 : Int) (r4 : Int) (r5 : List Int) (r6 : List Int) (r7 : List (List Int)) (r8 : Bool) (w : World) (ch : Kd.C (Kd.int .i64) w bE aA.length aA) (cj : aA.length ≤ bF) (ck : Kd.C (Kd.int .i64) w bG aB.length aB) (cm : aB.length ≤ bH) (cn : Kd.C (Kd.slice 3 (Kd.int .i64)) w bI aC.length aC) (cq : aC.length ≤ bJ) (cr : Kd.C (Kd.int .i64) w bK aL.length aL) (ct : aL.length ≤ bL) (cu : Kd.C (Kd.int .i64) w bM aM.length aM) (cv : aM.length ≤ bN) (cw : Kd.C (Kd.slice 3 (Kd.int .i64)) w bO aN.length aN) (cA : aN.length ≤ bP) (h : impl_Merge.f k ae aj aV au aA aB aC aW bf bj b5 aL aM aN = some (r1,r2,r3,r4,r5,r6,r7,r8)) :
  Calls Try.prog 60 #[.agg #[vi ae,vi aj,vi aV,vi au,.slice bE aA.length bF,.slice bG aB.length bH,.slice bI aC.length bJ],.agg #[vi aW,vi bf,vi bj,vi b5,.slice bK aL.length bL,.slice bM aM.length bN,.slice bO aN.length bP]] w fun e w' => ∃ cL cM eG : Value,e = .returned (.tuple #[.agg #[vi r1,vi r2,vi r3,vi r4,cL,cM,eG],.bool r8]) ∧ Kd.R (Kd.int .i64) 3 w' w.heap.size (fun k_ => some k_ ≠ (cM : Value).ownBlock) cL r5 ∧ Kd.R (Kd.int .i64) 3 w' w.heap.size (fun k_ => some k_ ≠ (cL : Value).ownBlock) cM r6 ∧ Kd.S (Kd.slice 3 (Kd.int .i64)) 24 w' w.heap.size (fun k_ => some k_ ≠ (cL : Value).ownBlock ∧ some k_ ≠ (cM : Value).ownBlock) eG r7 ∧ Below w.heap.size w w' := by
 have u : Rd w ⟨bE,aA.length,bF⟩ ⟨bG,aB.length,bH⟩ ⟨bI,aC.length,bJ⟩ aA aB aC := ⟨rfl,rfl,rfl,cj,cm,cq,ch,ck,cn⟩
 have u' : Rd w ⟨bK,aL.length,bL⟩ ⟨bM,aM.length,bN⟩ ⟨bO,aN.length,bP⟩ aL aM aN := ⟨rfl,rfl,rfl,ct,cv,cA,cr,cu,cw⟩
 have key : Calls Try.prog 60 #[.agg #[vi ae,vi aj,vi aV,vi au,.slice bE aA.length bF,.slice bG aB.length bH,.slice bI aC.length bJ],.agg #[vi aW,vi bf,vi bj,vi b5,.slice bK aL.length bL,.slice bM aM.length bN,.slice bO aN.length bP]] w (SkOut w r1 r2 r3 r4 r5 r6 r7 r8) := by
  unfold impl_Merge.f at h
  obtain ⟨t1,h1,h⟩ := Option.bind_eq_some_iff.mp h
  by_cases b1 : t1 = true
  ·subst b1
   rw [if_pos rfl] at h
   obtain ⟨t2,h2,h⟩ := Option.bind_eq_some_iff.mp h
   by_cases b2 : t2 = true
   ·subst b2
    rw [if_pos rfl] at h;obtain ⟨t,h3,h⟩ := Option.bind_eq_some_iff.mp h
    by_cases b3 : (t.1 = ae ∧ t.2.1 = aj ∧ t.2.2.1 = aV ∧ t.2.2.2.1 = au ∧ t.2.2.2.2.1 = aA ∧ t.2.2.2.2.2.1 = aB ∧ t.2.2.2.2.2.2 = aC) ∧ impl_Merge.G ae aj aA aB aC aW bf aL aM aN
    ·rw [if_pos b3] at h
     obtain ⟨b4,g1,g2,g3,g4,g5,g6⟩ := b3;obtain ⟨t0,t1,t2,t3,t4,t5,t6⟩ := t;obtain ⟨d0,d1,d2,d3,d4,d5,d6⟩ := b4;simp only at d0 d1 d2 d3 d4 d5 d6;rw [d0,d1,d2,d3,d4,d5,d6] at h3;clear d0 d1 d2 d3 d4 d5 d6;simp only [Option.some.injEq,Prod.mk.injEq] at h;obtain ⟨rfl,rfl,rfl,rfl,rfl,rfl,rfl,rfl⟩ := h;refine impl_Merge.yes k _ _ _ _ _ _ _ _ w u u' ⟨h1⟩ ⟨h2⟩ ⟨h3⟩ ⟨g1⟩ _ _ rfl rfl ⟨g2⟩ ⟨g3⟩ _ _ _ ⟨by simp only [List.length_zipWith];omega⟩ ⟨g4⟩ ⟨g5⟩ ⟨g6⟩ ⟨?_⟩;unfold impl_Merge.lo
     by_cases e1 : ae = 0
     ·exact .inl ⟨by simp [e1],by rw [if_pos (.inl e1)]⟩
     ·have e1' : (ae == 0) = false := by simp [e1]
      by_cases e2 : aW > 0
      ·by_cases e3 : bj < aV
       ·exact .inr (.inr (.inl ⟨e1',by simp [e2],by simp [e3],by rw [if_pos (.inr ⟨e2,e3⟩)]⟩))
       ·exact .inr (.inr (.inr ⟨e1',by simp [e2],by simp;omega,by rw [if_neg (by omega)]⟩))
      ·exact .inr (.inl ⟨e1',by simp;omega,by rw [if_neg (by omega)]⟩)
    ·rw [if_neg b3] at h
     cases h
   ·rw [if_neg b2] at h
    simp only [Option.some.injEq,Prod.mk.injEq] at h;obtain ⟨rfl,rfl,rfl,rfl,rfl,rfl,rfl,rfl⟩ := h
    have : t2 = false := by simpa using b2
    subst this;exact impl_Merge.no2 k _ _ _ _ _ _ _ _ w u u' ⟨h1⟩ ⟨h2⟩
  ·rw [if_neg b1] at h
   simp only [Option.some.injEq,Prod.mk.injEq] at h
   obtain ⟨rfl,rfl,rfl,rfl,rfl,rfl,rfl,rfl⟩ := h
   have : t1 = false := by simpa using b1
   subst this
   exact impl_Merge.no1 k _ _ _ _ _ _ _ _ w u u' ⟨h1⟩
 refine key.mono ?_
 rintro e w' ⟨x,y,z,a,b,rfl,hs,hm,hb⟩
 obtain ⟨k1,k2,k3⟩ := hs.kd hm.1
 exact ⟨_,_,_,rfl,k1,k2,k3,hb⟩


def spec_SetOk.l0 : Nat → List (S70) → Int → Option (Bool)
 | 0,_,_ => none
 | k + 1,x0,x3 => if x3 < (x0.length : Int) then (if 0 ≤ x3 then ((spec_l1In.f ((rd_T70 x0 x3).f0) 0 9999).bind fun b_ => (if b_ = true then ((spec_l1In.f ((rd_T70 x0 x3).f1) ((rd_T70 x0 x3).f0) 9999).bind fun ca => (if ca = true then (if x3 > 0 then (if 0 ≤ (wrap64 (x3 - 1)) then (if (wrap64 (x3 - 1)) < (x0.length : Int) then (if ((rd_T70 x0 x3).f0) ≤ (wrap64 (((rd_T70 x0 (wrap64 (x3 - 1))).f1) + 1)) then (some false) else (spec_SetOk.l0 k x0 (wrap64 (x3 + 1)))) else (none)) else (none)) else (spec_SetOk.l0 k x0 (wrap64 (x3 + 1)))) else (some false))) else (some false))) else (none)) else (some true)
def spec_SetOk.f (k : Nat) (l0 : List (S70)) : Option (Bool) := spec_SetOk.l0 k l0 0
theorem spec_SetOk.calls (k : Nat) (A0 : Option Addr) (c0 : Nat) (l0 : List (S70)) (r : Bool) (w : World) (eH : Kd.C k70 w A0 l0.length l0) (eI : l0.length ≤ c0) (h : spec_SetOk.f k l0 = some r) :
  Calls Try.prog 92 #[.slice A0 l0.length c0] w fun e w' => e = .returned (.bool r) ∧ Drawn0 w w' := by
 have aD := mkA eH
 have fg := mkA eI
 clear eH eI
 have H : (spec_SetOk.l0 k l0 0) = some r := h
 clear h
 have H' := mkA H
 clear H
 go_enter Try.func92,Try.ntmps92
 go_wp2
 repeat (go_quiet (fail);try go_wp2)
 go_loopg [3] k (fun kq v3 w' => ∃ (aa : Int),v3 = vi aa ∧ Aside0 (spec_SetOk.l0 kq l0 aa = some r) ∧ Aside0 (kq ≤ k) ∧ Drawn0 w w')
 case atStart => exact ⟨(0),(by first | rfl | (simp;done) | (simp [*];done)),H',⟨Nat.le_refl _⟩,Z15x7⟩
 case round =>
  clear H'
  obtain ⟨aa,rfl,HA,cN,⟨m1,rfl⟩⟩ := hrel
  cases gk with
  | zero => exact absurd HA.out (by simp [spec_SetOk.l0])
  | succ k1 =>
   have H := HA.out
   clear HA
   simp only [spec_SetOk.l0] at H
   by_cases c2 : aa < (l0.length : Int)
   ·rw [if_pos c2] at H
    have c2b0 : decide (aa < (l0.length : Int)) = true := decide_eq_true c2;clear c2
    by_cases c3 : 0 ≤ aa
    ·rw [if_pos c3] at H
     have c3b0 : decide (0 ≤ aa) = true := decide_eq_true c3;clear c3;replace H := Option.bind_eq_some_iff.mp H;obtain ⟨b_,eJ,H⟩ := H
     try dsimp only at H
     have A4 := mkA eJ;clear eJ
     by_cases c5 : b_ = true
     ·subst c5
      rw [if_pos rfl] at H;replace H := Option.bind_eq_some_iff.mp H;obtain ⟨ca,eK,H⟩ := H
      try dsimp only at H
      have A6 := mkA eK;clear eK
      by_cases c7 : ca = true
      ·subst c7
       rw [if_pos rfl] at H
       by_cases c8 : aa > 0
       ·rw [if_pos c8] at H
        have c8b0 : decide (0 < aa) = true := decide_eq_true c8;clear c8;obtain ⟨aE,b6⟩ : ∃ j_ : Int,(wrap64 (aa - 1)) = j_ := ⟨_,rfl⟩
        replace H : (if 0 ≤ (aE) then (if (aE) < (l0.length : Int) then (if ((rd_T70 l0 aa).f0) ≤ (wrap64 (((rd_T70 l0 (aE)).f1) + 1)) then (some false) else (spec_SetOk.l0 k1 l0 (wrap64 (aa + 1)))) else (none)) else (none)) = some r := by first | (rw [b6] at H;exact H) | (simp only [b6] at H ⊢;exact H)
        (try rw [b6] at A4)
        (try rw [b6] at A6)
        have hji9w : (IntKind.i64.wrap (aa - 1)) = aE := (i64_w _).trans b6
        by_cases c10 : 0 ≤ (aE)
        ·rw [if_pos c10] at H
         have c10b0 : decide (0 ≤ (aE)) = true := decide_eq_true c10;clear c10
         by_cases cO : (aE) < (l0.length : Int)
         ·rw [if_pos cO] at H
          have c11b0 : decide ((aE) < (l0.length : Int)) = true := decide_eq_true cO;clear cO
          by_cases bD : ((rd_T70 l0 aa).f0) ≤ (wrap64 (((rd_T70 l0 (aE)).f1) + 1))
          ·rw [if_pos bD] at H
           have c12b0 : decide (((rd_T70 l0 aa).f0) ≤ (wrap64 (((rd_T70 l0 (aE)).f1) + 1))) = true := decide_eq_true bD
           (try (have c12b1 : decide (((rd_T70 l0 aa).f0) ≤ (IntKind.i64.wrap (((rd_T70 l0 (aE)).f1) + 1))) = true := by simp only [i64_w];first | exact decide_eq_true bD | simpa using bD))
           clear bD;obtain rfl := Option.some.inj H;simp only [Option.some.injEq,Prod.mk.injEq] at H;obtain ⟨rfl⟩ := H;have av : 0 ≤ (aa : Int) := of_decide_eq_true Z15x0;have aw : aa < (l0.length : Int) := of_decide_eq_true Z15x0;obtain ⟨ab,bb,aR,aS⟩ := at_T70 aD.out aa av aw
           cases bb
           replace av := eq_true av;replace aw := eq_true aw;have al : 0 ≤ ((aE) : Int) := of_decide_eq_true Z15x0;have an : (aE) < (l0.length : Int) := of_decide_eq_true Z15x0;obtain ⟨a8,aT,aJ,aK⟩ := at_T70 aD.out (aE) al an;obtain rfl : ab = a8 := (by injection aT);replace al := eq_true al;replace an := eq_true an
           go_wp2_with (first | (go_at_call 42;(with_reducible refine (spec_l1In.calls ((rd_T70 l0 aa).f0) 0 9999 true _ A4.out).mono ?_);rintro e w' ⟨rfl,⟨nd,rfl⟩⟩;(try first | exact ⟨rfl,_,World.drewN_drewN _ _ _⟩ | exact ⟨rfl,_,Eq.trans (World.drewN_drewN _ _ _) (congrArg (World.drewN _) (Nat.add_assoc _ _ _))⟩);have af : 0 ≤ (aa : Int) := of_decide_eq_true Z15x0;have ag : aa < (l0.length : Int) := of_decide_eq_true Z15x0;obtain ⟨ao,aF,ax,ay⟩ := at_T70 aD.out aa af ag;obtain rfl : ab = ao := (by injection aF);replace af := eq_true af;replace ag := eq_true ag;have ah : 0 ≤ (aa : Int) := of_decide_eq_true Z15x0;have ai : aa < (l0.length : Int) := of_decide_eq_true Z15x0;obtain ⟨aq,aG,az,a6⟩ := at_T70 aD.out aa ah ai;obtain rfl : ab = aq := (by injection aG);replace ah := eq_true ah;replace ai := eq_true ai) | (go_at_call 42;(with_reducible refine (spec_l1In.calls ((rd_T70 l0 aa).f1) ((rd_T70 l0 aa).f0) 9999 true _ A6.out).mono ?_);rintro e w' ⟨rfl,⟨nd,rfl⟩⟩;(try first | exact ⟨rfl,_,World.drewN_drewN _ _ _⟩ | exact ⟨rfl,_,Eq.trans (World.drewN_drewN _ _ _) (congrArg (World.drewN _) (Nat.add_assoc _ _ _))⟩);have aH : 0 ≤ (aa : Int) := of_decide_eq_true Z15x0;have aI : aa < (l0.length : Int) := of_decide_eq_true Z15x0;obtain ⟨aU,bk,bc,bd⟩ := at_T70 aD.out aa aH aI;obtain rfl : ab = aU := (by injection bk);replace aH := eq_true aH;replace aI := eq_true aI;have al : 0 ≤ ((aE) : Int) := of_decide_eq_true Z15x0;have an : (aE) < (l0.length : Int) := of_decide_eq_true Z15x0;obtain ⟨a8,aT,aJ,aK⟩ := at_T70 aD.out (aE) al an;obtain rfl : ab = a8 := (by injection aT);replace al := eq_true al;replace an := eq_true an))
           repeat (go_quiet (first | (go_at_call 42;(with_reducible refine (spec_l1In.calls ((rd_T70 l0 aa).f0) 0 9999 true _ A4.out).mono ?_);rintro e w' ⟨rfl,⟨nd,rfl⟩⟩;(try first | exact ⟨rfl,_,World.drewN_drewN _ _ _⟩ | exact ⟨rfl,_,Eq.trans (World.drewN_drewN _ _ _) (congrArg (World.drewN _) (Nat.add_assoc _ _ _))⟩)) | (go_at_call 42;(with_reducible refine (spec_l1In.calls ((rd_T70 l0 aa).f1) ((rd_T70 l0 aa).f0) 9999 true _ A6.out).mono ?_);rintro e w' ⟨rfl,⟨nd,rfl⟩⟩;(try first | exact ⟨rfl,_,World.drewN_drewN _ _ _⟩ | exact ⟨rfl,_,Eq.trans (World.drewN_drewN _ _ _) (congrArg (World.drewN _) (Nat.add_assoc _ _ _))⟩)));try go_wp2_with (first | (go_at_call 42;(with_reducible refine (spec_l1In.calls ((rd_T70 l0 aa).f0) 0 9999 true _ A4.out).mono ?_);rintro e w' ⟨rfl,⟨nd,rfl⟩⟩;(try first | exact ⟨rfl,_,World.drewN_drewN _ _ _⟩ | exact ⟨rfl,_,Eq.trans (World.drewN_drewN _ _ _) (congrArg (World.drewN _) (Nat.add_assoc _ _ _))⟩);have af : 0 ≤ (aa : Int) := of_decide_eq_true Z15x0;have ag : aa < (l0.length : Int) := of_decide_eq_true Z15x0;obtain ⟨ao,aF,ax,ay⟩ := at_T70 aD.out aa af ag;obtain rfl : ab = ao := (by injection aF);replace af := eq_true af;replace ag := eq_true ag;have ah : 0 ≤ (aa : Int) := of_decide_eq_true Z15x0;have ai : aa < (l0.length : Int) := of_decide_eq_true Z15x0;obtain ⟨aq,aG,az,a6⟩ := at_T70 aD.out aa ah ai;obtain rfl : ab = aq := (by injection aG);replace ah := eq_true ah;replace ai := eq_true ai) | (go_at_call 42;(with_reducible refine (spec_l1In.calls ((rd_T70 l0 aa).f1) ((rd_T70 l0 aa).f0) 9999 true _ A6.out).mono ?_);rintro e w' ⟨rfl,⟨nd,rfl⟩⟩;(try first | exact ⟨rfl,_,World.drewN_drewN _ _ _⟩ | exact ⟨rfl,_,Eq.trans (World.drewN_drewN _ _ _) (congrArg (World.drewN _) (Nat.add_assoc _ _ _))⟩);have aH : 0 ≤ (aa : Int) := of_decide_eq_true Z15x0;have aI : aa < (l0.length : Int) := of_decide_eq_true Z15x0;obtain ⟨aU,bk,bc,bd⟩ := at_T70 aD.out aa aH aI;obtain rfl : ab = aU := (by injection bk);replace aH := eq_true aH;replace aI := eq_true aI;have al : 0 ≤ ((aE) : Int) := of_decide_eq_true Z15x0;have an : (aE) < (l0.length : Int) := of_decide_eq_true Z15x0;obtain ⟨a8,aT,aJ,aK⟩ := at_T70 aD.out (aE) al an;obtain rfl : ab = a8 := (by injection aT);replace al := eq_true al;replace an := eq_true an)))
           go_ret
           exact ⟨by first | rfl | (simp;done) | (simp only [← b6] <;> (first | rfl | simp)) | (simp [*];done),Z15x7⟩
          ·rw [if_neg bD] at H
           have c12b0 : decide (((rd_T70 l0 aa).f0) ≤ (wrap64 (((rd_T70 l0 (aE)).f1) + 1))) = false := decide_eq_false bD
           (try (have c12b1 : decide (((rd_T70 l0 aa).f0) ≤ (IntKind.i64.wrap (((rd_T70 l0 (aE)).f1) + 1))) = false := by simp only [i64_w];first | exact decide_eq_false bD | simpa using bD))
           clear bD;have H' := mkA H;clear H;have av : 0 ≤ (aa : Int) := of_decide_eq_true Z15x0;have aw : aa < (l0.length : Int) := of_decide_eq_true Z15x0;obtain ⟨ab,bb,aR,aS⟩ := at_T70 aD.out aa av aw
           cases bb
           replace av := eq_true av;replace aw := eq_true aw;have al : 0 ≤ ((aE) : Int) := of_decide_eq_true Z15x0;have an : (aE) < (l0.length : Int) := of_decide_eq_true Z15x0;obtain ⟨a8,aT,aJ,aK⟩ := at_T70 aD.out (aE) al an;obtain rfl : ab = a8 := (by injection aT);replace al := eq_true al;replace an := eq_true an
           go_wp2_with (first | (go_at_call 42;(with_reducible refine (spec_l1In.calls ((rd_T70 l0 aa).f0) 0 9999 true _ A4.out).mono ?_);rintro e w' ⟨rfl,⟨nd,rfl⟩⟩;(try first | exact ⟨rfl,_,World.drewN_drewN _ _ _⟩ | exact ⟨rfl,_,Eq.trans (World.drewN_drewN _ _ _) (congrArg (World.drewN _) (Nat.add_assoc _ _ _))⟩);have af : 0 ≤ (aa : Int) := of_decide_eq_true Z15x0;have ag : aa < (l0.length : Int) := of_decide_eq_true Z15x0;obtain ⟨ao,aF,ax,ay⟩ := at_T70 aD.out aa af ag;obtain rfl : ab = ao := (by injection aF);replace af := eq_true af;replace ag := eq_true ag;have ah : 0 ≤ (aa : Int) := of_decide_eq_true Z15x0;have ai : aa < (l0.length : Int) := of_decide_eq_true Z15x0;obtain ⟨aq,aG,az,a6⟩ := at_T70 aD.out aa ah ai;obtain rfl : ab = aq := (by injection aG);replace ah := eq_true ah;replace ai := eq_true ai) | (go_at_call 42;(with_reducible refine (spec_l1In.calls ((rd_T70 l0 aa).f1) ((rd_T70 l0 aa).f0) 9999 true _ A6.out).mono ?_);rintro e w' ⟨rfl,⟨nd,rfl⟩⟩;(try first | exact ⟨rfl,_,World.drewN_drewN _ _ _⟩ | exact ⟨rfl,_,Eq.trans (World.drewN_drewN _ _ _) (congrArg (World.drewN _) (Nat.add_assoc _ _ _))⟩);have aH : 0 ≤ (aa : Int) := of_decide_eq_true Z15x0;have aI : aa < (l0.length : Int) := of_decide_eq_true Z15x0;obtain ⟨aU,bk,bc,bd⟩ := at_T70 aD.out aa aH aI;obtain rfl : ab = aU := (by injection bk);replace aH := eq_true aH;replace aI := eq_true aI;have al : 0 ≤ ((aE) : Int) := of_decide_eq_true Z15x0;have an : (aE) < (l0.length : Int) := of_decide_eq_true Z15x0;obtain ⟨a8,aT,aJ,aK⟩ := at_T70 aD.out (aE) al an;obtain rfl : ab = a8 := (by injection aT);replace al := eq_true al;replace an := eq_true an))
           repeat (go_quiet (first | (go_at_call 42;(with_reducible refine (spec_l1In.calls ((rd_T70 l0 aa).f0) 0 9999 true _ A4.out).mono ?_);rintro e w' ⟨rfl,⟨nd,rfl⟩⟩;(try first | exact ⟨rfl,_,World.drewN_drewN _ _ _⟩ | exact ⟨rfl,_,Eq.trans (World.drewN_drewN _ _ _) (congrArg (World.drewN _) (Nat.add_assoc _ _ _))⟩)) | (go_at_call 42;(with_reducible refine (spec_l1In.calls ((rd_T70 l0 aa).f1) ((rd_T70 l0 aa).f0) 9999 true _ A6.out).mono ?_);rintro e w' ⟨rfl,⟨nd,rfl⟩⟩;(try first | exact ⟨rfl,_,World.drewN_drewN _ _ _⟩ | exact ⟨rfl,_,Eq.trans (World.drewN_drewN _ _ _) (congrArg (World.drewN _) (Nat.add_assoc _ _ _))⟩)));try go_wp2_with (first | (go_at_call 42;(with_reducible refine (spec_l1In.calls ((rd_T70 l0 aa).f0) 0 9999 true _ A4.out).mono ?_);rintro e w' ⟨rfl,⟨nd,rfl⟩⟩;(try first | exact ⟨rfl,_,World.drewN_drewN _ _ _⟩ | exact ⟨rfl,_,Eq.trans (World.drewN_drewN _ _ _) (congrArg (World.drewN _) (Nat.add_assoc _ _ _))⟩);have af : 0 ≤ (aa : Int) := of_decide_eq_true Z15x0;have ag : aa < (l0.length : Int) := of_decide_eq_true Z15x0;obtain ⟨ao,aF,ax,ay⟩ := at_T70 aD.out aa af ag;obtain rfl : ab = ao := (by injection aF);replace af := eq_true af;replace ag := eq_true ag;have ah : 0 ≤ (aa : Int) := of_decide_eq_true Z15x0;have ai : aa < (l0.length : Int) := of_decide_eq_true Z15x0;obtain ⟨aq,aG,az,a6⟩ := at_T70 aD.out aa ah ai;obtain rfl : ab = aq := (by injection aG);replace ah := eq_true ah;replace ai := eq_true ai) | (go_at_call 42;(with_reducible refine (spec_l1In.calls ((rd_T70 l0 aa).f1) ((rd_T70 l0 aa).f0) 9999 true _ A6.out).mono ?_);rintro e w' ⟨rfl,⟨nd,rfl⟩⟩;(try first | exact ⟨rfl,_,World.drewN_drewN _ _ _⟩ | exact ⟨rfl,_,Eq.trans (World.drewN_drewN _ _ _) (congrArg (World.drewN _) (Nat.add_assoc _ _ _))⟩);have aH : 0 ≤ (aa : Int) := of_decide_eq_true Z15x0;have aI : aa < (l0.length : Int) := of_decide_eq_true Z15x0;obtain ⟨aU,bk,bc,bd⟩ := at_T70 aD.out aa aH aI;obtain rfl : ab = aU := (by injection bk);replace aH := eq_true aH;replace aI := eq_true aI;have al : 0 ≤ ((aE) : Int) := of_decide_eq_true Z15x0;have an : (aE) < (l0.length : Int) := of_decide_eq_true Z15x0;obtain ⟨a8,aT,aJ,aK⟩ := at_T70 aD.out (aE) al an;obtain rfl : ab = a8 := (by injection aT);replace al := eq_true al;replace an := eq_true an)))
           go_roundg k1
           case measure => have := cN.out;omega
           case rel => exact ⟨(wrap64 (aa + 1)),(by first | rfl | (simp;done) | (simp [*];done)),H',⟨by have := cN.out;omega⟩,Z15x7⟩
         ·rw [if_neg cO] at H
          exact absurd H (by simp)
        ·rw [if_neg c10] at H
         exact absurd H (by simp)
       ·rw [if_neg c8] at H
        have c8b0 : decide (0 < aa) = false := decide_eq_false c8;clear c8;have H' := mkA H;clear H;have av : 0 ≤ (aa : Int) := of_decide_eq_true Z15x0;have aw : aa < (l0.length : Int) := of_decide_eq_true Z15x0;obtain ⟨ab,bb,aR,aS⟩ := at_T70 aD.out aa av aw
        cases bb
        replace av := eq_true av;replace aw := eq_true aw
        go_wp2_with (first | (go_at_call 42;(with_reducible refine (spec_l1In.calls ((rd_T70 l0 aa).f0) 0 9999 true _ A4.out).mono ?_);rintro e w' ⟨rfl,⟨nd,rfl⟩⟩;(try first | exact ⟨rfl,_,World.drewN_drewN _ _ _⟩ | exact ⟨rfl,_,Eq.trans (World.drewN_drewN _ _ _) (congrArg (World.drewN _) (Nat.add_assoc _ _ _))⟩);have af : 0 ≤ (aa : Int) := of_decide_eq_true Z15x0;have ag : aa < (l0.length : Int) := of_decide_eq_true Z15x0;obtain ⟨ao,aF,ax,ay⟩ := at_T70 aD.out aa af ag;obtain rfl : ab = ao := (by injection aF);replace af := eq_true af;replace ag := eq_true ag;have ah : 0 ≤ (aa : Int) := of_decide_eq_true Z15x0;have ai : aa < (l0.length : Int) := of_decide_eq_true Z15x0;obtain ⟨aq,aG,az,a6⟩ := at_T70 aD.out aa ah ai;obtain rfl : ab = aq := (by injection aG);replace ah := eq_true ah;replace ai := eq_true ai) | (go_at_call 42;(with_reducible refine (spec_l1In.calls ((rd_T70 l0 aa).f1) ((rd_T70 l0 aa).f0) 9999 true _ A6.out).mono ?_);rintro e w' ⟨rfl,⟨nd,rfl⟩⟩;(try first | exact ⟨rfl,_,World.drewN_drewN _ _ _⟩ | exact ⟨rfl,_,Eq.trans (World.drewN_drewN _ _ _) (congrArg (World.drewN _) (Nat.add_assoc _ _ _))⟩)))
        repeat (go_quiet (first | (go_at_call 42;(with_reducible refine (spec_l1In.calls ((rd_T70 l0 aa).f0) 0 9999 true _ A4.out).mono ?_);rintro e w' ⟨rfl,⟨nd,rfl⟩⟩;(try first | exact ⟨rfl,_,World.drewN_drewN _ _ _⟩ | exact ⟨rfl,_,Eq.trans (World.drewN_drewN _ _ _) (congrArg (World.drewN _) (Nat.add_assoc _ _ _))⟩)) | (go_at_call 42;(with_reducible refine (spec_l1In.calls ((rd_T70 l0 aa).f1) ((rd_T70 l0 aa).f0) 9999 true _ A6.out).mono ?_);rintro e w' ⟨rfl,⟨nd,rfl⟩⟩;(try first | exact ⟨rfl,_,World.drewN_drewN _ _ _⟩ | exact ⟨rfl,_,Eq.trans (World.drewN_drewN _ _ _) (congrArg (World.drewN _) (Nat.add_assoc _ _ _))⟩)));try go_wp2_with (first | (go_at_call 42;(with_reducible refine (spec_l1In.calls ((rd_T70 l0 aa).f0) 0 9999 true _ A4.out).mono ?_);rintro e w' ⟨rfl,⟨nd,rfl⟩⟩;(try first | exact ⟨rfl,_,World.drewN_drewN _ _ _⟩ | exact ⟨rfl,_,Eq.trans (World.drewN_drewN _ _ _) (congrArg (World.drewN _) (Nat.add_assoc _ _ _))⟩);have af : 0 ≤ (aa : Int) := of_decide_eq_true Z15x0;have ag : aa < (l0.length : Int) := of_decide_eq_true Z15x0;obtain ⟨ao,aF,ax,ay⟩ := at_T70 aD.out aa af ag;obtain rfl : ab = ao := (by injection aF);replace af := eq_true af;replace ag := eq_true ag;have ah : 0 ≤ (aa : Int) := of_decide_eq_true Z15x0;have ai : aa < (l0.length : Int) := of_decide_eq_true Z15x0;obtain ⟨aq,aG,az,a6⟩ := at_T70 aD.out aa ah ai;obtain rfl : ab = aq := (by injection aG);replace ah := eq_true ah;replace ai := eq_true ai) | (go_at_call 42;(with_reducible refine (spec_l1In.calls ((rd_T70 l0 aa).f1) ((rd_T70 l0 aa).f0) 9999 true _ A6.out).mono ?_);rintro e w' ⟨rfl,⟨nd,rfl⟩⟩;(try first | exact ⟨rfl,_,World.drewN_drewN _ _ _⟩ | exact ⟨rfl,_,Eq.trans (World.drewN_drewN _ _ _) (congrArg (World.drewN _) (Nat.add_assoc _ _ _))⟩))))
        go_roundg k1
        case measure => have := cN.out;omega
        case rel => exact ⟨(wrap64 (aa + 1)),(by first | rfl | (simp;done) | (simp [*];done)),H',⟨by have := cN.out;omega⟩,Z15x7⟩
      ·replace c7 := Bool.eq_false_iff.mpr c7
       subst c7;rw [if_neg (show ¬ (false = true) by decide)] at H;obtain rfl := Option.some.inj H;simp only [Option.some.injEq,Prod.mk.injEq] at H;obtain ⟨rfl⟩ := H;have av : 0 ≤ (aa : Int) := of_decide_eq_true Z15x0;have aw : aa < (l0.length : Int) := of_decide_eq_true Z15x0;obtain ⟨ab,bb,aR,aS⟩ := at_T70 aD.out aa av aw
       cases bb
       replace av := eq_true av;replace aw := eq_true aw
       go_wp2_with (first | (go_at_call 42;(with_reducible refine (spec_l1In.calls ((rd_T70 l0 aa).f0) 0 9999 true _ A4.out).mono ?_);rintro e w' ⟨rfl,⟨nd,rfl⟩⟩;(try first | exact ⟨rfl,_,World.drewN_drewN _ _ _⟩ | exact ⟨rfl,_,Eq.trans (World.drewN_drewN _ _ _) (congrArg (World.drewN _) (Nat.add_assoc _ _ _))⟩);have af : 0 ≤ (aa : Int) := of_decide_eq_true Z15x0;have ag : aa < (l0.length : Int) := of_decide_eq_true Z15x0;obtain ⟨ao,aF,ax,ay⟩ := at_T70 aD.out aa af ag;obtain rfl : ab = ao := (by injection aF);replace af := eq_true af;replace ag := eq_true ag;have ah : 0 ≤ (aa : Int) := of_decide_eq_true Z15x0;have ai : aa < (l0.length : Int) := of_decide_eq_true Z15x0;obtain ⟨aq,aG,az,a6⟩ := at_T70 aD.out aa ah ai;obtain rfl : ab = aq := (by injection aG);replace ah := eq_true ah;replace ai := eq_true ai) | (go_at_call 42;(with_reducible refine (spec_l1In.calls ((rd_T70 l0 aa).f1) ((rd_T70 l0 aa).f0) 9999 false _ A6.out).mono ?_);rintro e w' ⟨rfl,⟨nd,rfl⟩⟩;(try first | exact ⟨rfl,_,World.drewN_drewN _ _ _⟩ | exact ⟨rfl,_,Eq.trans (World.drewN_drewN _ _ _) (congrArg (World.drewN _) (Nat.add_assoc _ _ _))⟩)))
       repeat (go_quiet (first | (go_at_call 42;(with_reducible refine (spec_l1In.calls ((rd_T70 l0 aa).f0) 0 9999 true _ A4.out).mono ?_);rintro e w' ⟨rfl,⟨nd,rfl⟩⟩;(try first | exact ⟨rfl,_,World.drewN_drewN _ _ _⟩ | exact ⟨rfl,_,Eq.trans (World.drewN_drewN _ _ _) (congrArg (World.drewN _) (Nat.add_assoc _ _ _))⟩)) | (go_at_call 42;(with_reducible refine (spec_l1In.calls ((rd_T70 l0 aa).f1) ((rd_T70 l0 aa).f0) 9999 false _ A6.out).mono ?_);rintro e w' ⟨rfl,⟨nd,rfl⟩⟩;(try first | exact ⟨rfl,_,World.drewN_drewN _ _ _⟩ | exact ⟨rfl,_,Eq.trans (World.drewN_drewN _ _ _) (congrArg (World.drewN _) (Nat.add_assoc _ _ _))⟩)));try go_wp2_with (first | (go_at_call 42;(with_reducible refine (spec_l1In.calls ((rd_T70 l0 aa).f0) 0 9999 true _ A4.out).mono ?_);rintro e w' ⟨rfl,⟨nd,rfl⟩⟩;(try first | exact ⟨rfl,_,World.drewN_drewN _ _ _⟩ | exact ⟨rfl,_,Eq.trans (World.drewN_drewN _ _ _) (congrArg (World.drewN _) (Nat.add_assoc _ _ _))⟩);have af : 0 ≤ (aa : Int) := of_decide_eq_true Z15x0;have ag : aa < (l0.length : Int) := of_decide_eq_true Z15x0;obtain ⟨ao,aF,ax,ay⟩ := at_T70 aD.out aa af ag;obtain rfl : ab = ao := (by injection aF);replace af := eq_true af;replace ag := eq_true ag;have ah : 0 ≤ (aa : Int) := of_decide_eq_true Z15x0;have ai : aa < (l0.length : Int) := of_decide_eq_true Z15x0;obtain ⟨aq,aG,az,a6⟩ := at_T70 aD.out aa ah ai;obtain rfl : ab = aq := (by injection aG);replace ah := eq_true ah;replace ai := eq_true ai) | (go_at_call 42;(with_reducible refine (spec_l1In.calls ((rd_T70 l0 aa).f1) ((rd_T70 l0 aa).f0) 9999 false _ A6.out).mono ?_);rintro e w' ⟨rfl,⟨nd,rfl⟩⟩;(try first | exact ⟨rfl,_,World.drewN_drewN _ _ _⟩ | exact ⟨rfl,_,Eq.trans (World.drewN_drewN _ _ _) (congrArg (World.drewN _) (Nat.add_assoc _ _ _))⟩))))
       go_ret
       exact ⟨by first | rfl | (simp;done) | (simp [*];done),Z15x7⟩
     ·replace c5 := Bool.eq_false_iff.mpr c5
      subst c5;rw [if_neg (show ¬ (false = true) by decide)] at H;obtain rfl := Option.some.inj H;simp only [Option.some.injEq,Prod.mk.injEq] at H;obtain ⟨rfl⟩ := H;have av : 0 ≤ (aa : Int) := of_decide_eq_true Z15x0;have aw : aa < (l0.length : Int) := of_decide_eq_true Z15x0;obtain ⟨ab,bb,aR,aS⟩ := at_T70 aD.out aa av aw
      cases bb
      replace av := eq_true av;replace aw := eq_true aw
      go_wp2_with (first | (go_at_call 42;(with_reducible refine (spec_l1In.calls ((rd_T70 l0 aa).f0) 0 9999 false _ A4.out).mono ?_);rintro e w' ⟨rfl,⟨nd,rfl⟩⟩;(try first | exact ⟨rfl,_,World.drewN_drewN _ _ _⟩ | exact ⟨rfl,_,Eq.trans (World.drewN_drewN _ _ _) (congrArg (World.drewN _) (Nat.add_assoc _ _ _))⟩)))
      repeat (go_quiet (first | (go_at_call 42;(with_reducible refine (spec_l1In.calls ((rd_T70 l0 aa).f0) 0 9999 false _ A4.out).mono ?_);rintro e w' ⟨rfl,⟨nd,rfl⟩⟩;(try first | exact ⟨rfl,_,World.drewN_drewN _ _ _⟩ | exact ⟨rfl,_,Eq.trans (World.drewN_drewN _ _ _) (congrArg (World.drewN _) (Nat.add_assoc _ _ _))⟩)));try go_wp2_with (first | (go_at_call 42;(with_reducible refine (spec_l1In.calls ((rd_T70 l0 aa).f0) 0 9999 false _ A4.out).mono ?_);rintro e w' ⟨rfl,⟨nd,rfl⟩⟩;(try first | exact ⟨rfl,_,World.drewN_drewN _ _ _⟩ | exact ⟨rfl,_,Eq.trans (World.drewN_drewN _ _ _) (congrArg (World.drewN _) (Nat.add_assoc _ _ _))⟩))))
      go_ret
      exact ⟨by first | rfl | (simp;done) | (simp [*];done),Z15x7⟩
    ·rw [if_neg c3] at H
     exact absurd H (by simp)
   ·rw [if_neg c2] at H
    have c2b0 : decide (aa < (l0.length : Int)) = false := decide_eq_false c2;clear c2;obtain rfl := Option.some.inj H;simp only [Option.some.injEq,Prod.mk.injEq] at H;obtain ⟨rfl⟩ := H
    go_wp2
    repeat (go_quiet (fail);try go_wp2)
    go_ret
    exact ⟨by first | rfl | (simp;done) | (simp [*];done),Z15x7⟩

def spec_EntryOk.f (k : Nat) (ae : Int) (aj : Int) (ak : List (S70)) (au : Int) (aX : Int) (aY : Int) (aZ : Int) (aO : List Int) (aP : List Int) (aQ : List (List Int)) : Option (Bool) := (spec_l6Place.f ae aj).bind fun cb => (if cb = true then (if (ak.length : Int) > 0 then ((spec_SetOk.f k ak).bind fun cc => (if cc = true then ((spec_SketchOk.f k au aX aY aZ aO aP aQ).bind fun cd => (some cd)) else (some false))) else (some false)) else (some false))
theorem spec_EntryOk.calls (k : Nat) (ae : Int) (aj : Int) (bm : Option Addr) (bn : Nat) (ak : List (S70)) (au : Int) (aX : Int) (aY : Int) (aZ : Int) (bo : Option Addr) (bp : Nat) (aO : List Int) (bq : Option Addr) (br : Nat) (aP : List Int) (bs : Option Addr) (bu : Nat) (aQ : List (List Int)) (r : Bool) (w : World) (bQ : Kd.C k70 w bm ak.length ak) (bR : ak.length ≤ bn) (bS : Kd.C (Kd.int .i64) w bo aO.length aO) (bT : aO.length ≤ bp) (bU : Kd.C (Kd.int .i64) w bq aP.length aP) (bV : aP.length ≤ br) (bW : Kd.C (Kd.slice 3 (Kd.int .i64)) w bs aQ.length aQ) (bX : aQ.length ≤ bu) (h : spec_EntryOk.f k ae aj ak au aX aY aZ aO aP aQ = some r) :
  Calls Try.prog 61 #[.agg #[vi ae,vi aj,.slice bm ak.length bn,vi au,vi aX,vi aY,vi aZ,.slice bo aO.length bp,.slice bq aP.length br,.slice bs aQ.length bu]] w fun e w' => e = .returned (.bool r) ∧ Below w.heap.size w w' := by
 have fb := Try.underlying34
 have fc := Try.underlying27
 have bY := mkA bQ
 have bZ := mkA bR
 clear bQ bR
 have cB := mkA bS
 have cC := mkA bT
 clear bS bT
 have cD := mkA bU
 have cE := mkA bV
 clear bU bV
 have cF := mkA bW
 have cG := mkA bX
 clear bW bX
 have HB := mkA (Below.refl w.heap.size w)
 have H := h
 unfold spec_EntryOk.f at H
 clear h
 replace H := Option.bind_eq_some_iff.mp H
 obtain ⟨cb,eM,H⟩ := H
 try dsimp only at H
 have A2 := mkA eM
 clear eM
 by_cases c3 : cb = true
 ·subst c3
  rw [if_pos rfl] at H
  by_cases c4 : (ak.length : Int) > 0
  ·rw [if_pos c4] at H
   have c4b0 : decide (0 < (ak.length : Int)) = true := decide_eq_true c4
   (try (have c4b1 : decide (0 < ak.length) = true := decide_eq_true (by omega)))
   (try (have c4b2 : (0 < ak.length) = True := eq_true (by omega)))
   have c4b3 : decide (0 < ak.length) = true := decide_eq_true (by omega)
   clear c4
   replace H := Option.bind_eq_some_iff.mp H
   obtain ⟨cc,eN,H⟩ := H
   try dsimp only at H
   have A5 := mkA eN
   clear eN
   by_cases c6 : cc = true
   ·subst c6
    rw [if_pos rfl] at H;replace H := Option.bind_eq_some_iff.mp H;obtain ⟨cd,eO,H⟩ := H
    try dsimp only at H
    have A7 := mkA eO;clear eO;obtain rfl := Option.some.inj H;simp only [Option.some.injEq,Prod.mk.injEq] at H;obtain ⟨rfl⟩ := H
    go_enter Try.func61,Try.ntmps61
    go_wp2_with (first | ((with_reducible refine gate_dst (N := 1) rfl ?_);(try (refine gate_guard (by rfl) ?_;dsimp only));refine box_event ?hg (N := 1) ?hd (cs := #[vi ae,vi aj,.slice bm ak.length bn,vi au,vi aX,vi aY,vi aZ,.slice bo aO.length bp,.slice bq aP.length br,.slice bs aQ.length bu]) (t := 34) ?hr ?_;(case hd => rfl);(case hg => rfl);(case hr => first | (go_simp;done) | (go_simp;rfl));intro a7 hg w8 hbox hb;have bz := mkA (below_step Z15x2 hb);have b0 := mkA (hbox);have bA := mkA ((by rw [hg];exact (below_size Z15x2) : w.heap.size ≤ a7));have bB := mkA ((by rw [hg];exact (below_size Z15x2) : w.heap.size ≤ a7));clear HB;have HB := bz;have ar := b0;have bC := bA;have bw := bB;clear bz b0 bA bB;clear hb hbox hg;obtain ⟨ei,ej,ek,en,eo,ep,er,et,eu,ev⟩ := cz10 ar.out;obtain ⟨ew,ey,ez,e0,e7,e8,e9,eA,eC,eD⟩ := fz10 ar.out) | ((with_reducible refine gate_callee (f := 72) rfl ?_);refine goesL_ (some 7) rfl rfl Try.func72 (by kernel_rfl) rfl #[vi ae,vi aj] rfl Z15x6 ?_;(with_reducible refine (spec_l6Place.calls ae aj true _ A2.out).mono ?_);rintro e w' ⟨rfl,⟨nd,rfl⟩⟩;refine ⟨_,rfl,?_⟩) | (go_at_call 92;(with_reducible refine (spec_SetOk.calls k _ _ ak true _ ?bg ?bh A5.out).mono ?_);(case bg => repeat (first | exact (Kd.C_below bY.out Z15x1) | (with_reducible refine Kd.C_alloc ?_ _) | (with_reducible refine Kd.C_drewN ?_ _) | (with_reducible refine Kd.C_drew ?_)));(case bh => exact bZ.out);rintro e w' ⟨rfl,⟨nd,rfl⟩⟩) | (go_at_call 73;(with_reducible refine (spec_SketchOk.calls k au aX aY aZ _ _ aO _ _ aP _ _ aQ cd _ ?bg ?bh ?cH ?cI ?cJ ?cK A7.out).mono ?_);(case bg => repeat (first | exact (Kd.C_below cB.out Z15x1) | (with_reducible refine Kd.C_alloc ?_ _) | (with_reducible refine Kd.C_drewN ?_ _) | (with_reducible refine Kd.C_drew ?_)));(case bh => exact cC.out);(case cH => repeat (first | exact (Kd.C_below cD.out Z15x1) | (with_reducible refine Kd.C_alloc ?_ _) | (with_reducible refine Kd.C_drewN ?_ _) | (with_reducible refine Kd.C_drew ?_)));(case cI => exact cE.out);(case cJ => repeat (first | exact (Kd.C_below cF.out Z15x1) | (with_reducible refine Kd.C_alloc ?_ _) | (with_reducible refine Kd.C_drewN ?_ _) | (with_reducible refine Kd.C_drew ?_)));(case cK => exact cG.out);rintro e fh ⟨rfl,hb⟩;have bz := mkA (blk_below (g := a7) (o := .cells #[vi ae,vi aj,.slice bm ak.length bn,vi au,vi aX,vi aY,vi aZ,.slice bo aO.length bp,.slice bq aP.length br,.slice bs aQ.length bu] 34 (0,0)) (by (with_reducible repeat (first | refine blk_drewN ?_ _ | refine blk_drew ?_ | refine blk_alloc ?_ _));exact ar.out) hb);have b0 := mkA (below_step Z15x1 hb);clear ar;clear HB;have ar := bz;have HB := b0;clear bz b0;(try clear hb);(try clear fi);(try clear hk);(try clear hi)))
    go_ret
    exact ⟨Z15x8,Z15x1⟩
   ·replace c6 := Bool.eq_false_iff.mpr c6
    subst c6;rw [if_neg (show ¬ (false = true) by decide)] at H;obtain rfl := Option.some.inj H;simp only [Option.some.injEq,Prod.mk.injEq] at H;obtain ⟨rfl⟩ := H
    go_enter Try.func61,Try.ntmps61
    go_wp2_with (first | ((with_reducible refine gate_dst (N := 1) rfl ?_);(try (refine gate_guard (by rfl) ?_;dsimp only));refine box_event ?hg (N := 1) ?hd (cs := #[vi ae,vi aj,.slice bm ak.length bn,vi au,vi aX,vi aY,vi aZ,.slice bo aO.length bp,.slice bq aP.length br,.slice bs aQ.length bu]) (t := 34) ?hr ?_;(case hd => rfl);(case hg => rfl);(case hr => first | (go_simp;done) | (go_simp;rfl));intro a7 hg fj hbox hb;have bz := mkA (below_step Z15x2 hb);have b0 := mkA (hbox);have bA := mkA ((by rw [hg];exact (below_size Z15x2) : w.heap.size ≤ a7));have bB := mkA ((by rw [hg];exact (below_size Z15x2) : w.heap.size ≤ a7));clear HB;have HB := bz;have ar := b0;have bC := bA;have bw := bB;clear bz b0 bA bB;clear hb hbox hg;obtain ⟨cP,cQ,cR,cS,cT,cU,cV,cW,cX,cY⟩ := cz10 ar.out;obtain ⟨cZ,c_,da,db,dc,dd,de,df,dg,dh⟩ := fz10 ar.out) | ((with_reducible refine gate_callee (f := 72) rfl ?_);refine goesL_ (some 7) rfl rfl Try.func72 (by kernel_rfl) rfl #[vi ae,vi aj] rfl Z15x6 ?_;(with_reducible refine (spec_l6Place.calls ae aj true _ A2.out).mono ?_);rintro e w' ⟨rfl,⟨nd,rfl⟩⟩;refine ⟨_,rfl,?_⟩) | (go_at_call 92;(with_reducible refine (spec_SetOk.calls k _ _ ak false _ ?bg ?bh A5.out).mono ?_);(case bg => repeat (first | exact (Kd.C_below bY.out Z15x1) | (with_reducible refine Kd.C_alloc ?_ _) | (with_reducible refine Kd.C_drewN ?_ _) | (with_reducible refine Kd.C_drew ?_)));(case bh => exact bZ.out);rintro e w' ⟨rfl,⟨nd,rfl⟩⟩))
    go_ret
    exact ⟨Z15x8,Z15x1⟩
  ·rw [if_neg c4] at H
   have c4b0 : decide (0 < (ak.length : Int)) = false := decide_eq_false c4
   (try (have c4b1 : decide (0 < ak.length) = false := decide_eq_false (by omega)))
   (try (have c4b2 : (0 < ak.length) = False := eq_false (by omega)))
   have c4b3 : decide (0 < ak.length) = false := decide_eq_false (by omega)
   clear c4
   obtain rfl := Option.some.inj H
   simp only [Option.some.injEq,Prod.mk.injEq] at H
   obtain ⟨rfl⟩ := H
   go_enter Try.func61,Try.ntmps61
   go_wp2_with (first | ((with_reducible refine gate_dst (N := 1) rfl ?_);(try (refine gate_guard (by rfl) ?_;dsimp only));refine box_event ?hg (N := 1) ?hd (cs := #[vi ae,vi aj,.slice bm ak.length bn,vi au,vi aX,vi aY,vi aZ,.slice bo aO.length bp,.slice bq aP.length br,.slice bs aQ.length bu]) (t := 34) ?hr ?_;(case hd => rfl);(case hg => rfl);(case hr => first | (go_simp;done) | (go_simp;rfl));intro a7 hg fk hbox hb;have bz := mkA (below_step Z15x2 hb);have b0 := mkA (hbox);have bA := mkA ((by rw [hg];exact (below_size Z15x2) : w.heap.size ≤ a7));have bB := mkA ((by rw [hg];exact (below_size Z15x2) : w.heap.size ≤ a7));clear HB;have HB := bz;have ar := b0;have bC := bA;have bw := bB;clear bz b0 bA bB;clear hb hbox hg;obtain ⟨di,dj,dk,dm,dn,dp,dq,dr,dt,du⟩ := cz10 ar.out;obtain ⟨dv,dw,dx,dy,dz,dA,dB,dC,dD,dE⟩ := fz10 ar.out) | ((with_reducible refine gate_callee (f := 72) rfl ?_);refine goesL_ (some 7) rfl rfl Try.func72 (by kernel_rfl) rfl #[vi ae,vi aj] rfl Z15x6 ?_;(with_reducible refine (spec_l6Place.calls ae aj true _ A2.out).mono ?_);rintro e w' ⟨rfl,⟨nd,rfl⟩⟩;refine ⟨_,rfl,?_⟩))
   go_ret
   exact ⟨Z15x8,Z15x1⟩
 ·replace c3 := Bool.eq_false_iff.mpr c3
  subst c3
  rw [if_neg (show ¬ (false = true) by decide)] at H
  obtain rfl := Option.some.inj H
  simp only [Option.some.injEq,Prod.mk.injEq] at H
  obtain ⟨rfl⟩ := H
  go_enter Try.func61,Try.ntmps61
  go_wp2_with (first | ((with_reducible refine gate_dst (N := 1) rfl ?_);(try (refine gate_guard (by rfl) ?_;dsimp only));refine box_event ?hg (N := 1) ?hd (cs := #[vi ae,vi aj,.slice bm ak.length bn,vi au,vi aX,vi aY,vi aZ,.slice bo aO.length bp,.slice bq aP.length br,.slice bs aQ.length bu]) (t := 34) ?hr ?_;(case hd => rfl);(case hg => rfl);(case hr => first | (go_simp;done) | (go_simp;rfl));intro a7 hg fl hbox hb;have bz := mkA (below_step Z15x2 hb);have b0 := mkA (hbox);have bA := mkA ((by rw [hg];exact (below_size Z15x2) : w.heap.size ≤ a7));have bB := mkA ((by rw [hg];exact (below_size Z15x2) : w.heap.size ≤ a7));clear HB;have HB := bz;have ar := b0;have bC := bA;have bw := bB;clear bz b0 bA bB;clear hb hbox hg;obtain ⟨dF,dG,dH,dI,dJ,dK,dL,dM,dN,dO⟩ := cz10 ar.out;obtain ⟨dP,dQ,dR,dS,dT,dU,dV,dW,dX,dY⟩ := fz10 ar.out) | ((with_reducible refine gate_callee (f := 72) rfl ?_);refine goesL_ (some 7) rfl rfl Try.func72 (by kernel_rfl) rfl #[vi ae,vi aj] rfl Z15x6 ?_;(with_reducible refine (spec_l6Place.calls ae aj false _ A2.out).mono ?_);rintro e w' ⟨rfl,⟨nd,rfl⟩⟩;refine ⟨_,rfl,?_⟩))
  go_ret
  exact ⟨Z15x8,Z15x1⟩

end Go.Proofs.Ytdciagkholijlaa.PFnEntries
