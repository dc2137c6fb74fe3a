-- Written by this session's changed copy of the kit's printer (wip/patch_print.py): not the kit's own print.
import Derived.Test.YtdciagkholijlaaPFnEntriesx0
namespace Go.Proofs.Ytdciagkholijlaa.PFnEntries
open Go.RowKit Go.Proofs.YtdciagkholijlaaW.PrintWords Go.Proofs.YtdciagkholijlaaW.PrintLast Go.Proofs.YtdciagkholijlaaW.PrintMore
attribute [local go_sem] max2_int min2_int max_two min_two max_three min_three max_four min_four   -- for this text's walks alone
set_option linter.unusedVariables false
set_option linter.unusedSimpArgs false
set_option maxHeartbeats 16000000
set_option maxRecDepth 100000
theorem Z7x0 {p : Prop} (h : p := by repeat (first | with_reducible refine blk_drew ?_ | ((with_reducible refine spec_SketchNew.at_ ?_);(simp;done)) | with_reducible refine blk_alloc ?_ _)) : p := h
theorem Z7x1 {p : Prop} (h : p := by (try simp only [List.map_toArray,List.map_cons,List.map_nil]);first | done | rfl | (simp only [List.length_drop,List.length_take];rfl)) : p := h
theorem Z7x2 {p : Prop} (h : p := by repeat (first | exact Drawn0.refl _ | apply Drawn0.step)) : p := h

def spec_SketchNew.f : Option (Int × Int × Int × Int × List Int × List Int × (List (List Int))) := some (0,0,0,0,List.replicate 8 0,List.replicate 8 0,[List.replicate 4 0,List.replicate 4 0])
theorem spec_SketchNew.row {W : World} {base p m : Nat} {ok : Nat → Prop} (hm : m ≤ 1000) (hb : base ≤ p) (h : W.heap[p]? = some (.cells (madeCells #[vi 0] m) 3 (0,0))) (hok : ok p) :
  Kd.R (Kd.int .i64) 3 W base ok (.slice (some ⟨p,0,none⟩) m m) (List.replicate m 0) := by
 refine Kd.R_of_own (enc := Value.int .i64) (h1 := fun _ => rfl) ⟨?_,.inr ⟨p,m,madeCells #[vi 0] m,by rw [List.length_replicate],hb,h,by rw [List.length_replicate];exact Nat.le_refl _,by simp only [maxLen];omega,by simp [size_madeCells],?_⟩⟩ (fun k hk => by rw [← Option.some.inj (show some p = some k from by simpa [Value.ownBlock] using hk)];exact hok)
 ·simp [encs]
 ·rw [List.length_replicate,Nat.mul_one]
  apply List.ext_getElem
  ·simp [size_madeCells,encs]
  ·intro i h1 h2
   simp [madeCells,encs,Nat.mod_one]
theorem spec_SketchNew.mk (m : Nat) (hm : m ≤ 1000) : ∀ W : World,(Instr.makeSlice 24 (vi (m : Int)) (vi (m : Int))).run Try.prog W = .ok (.slice (some ⟨W.heap.size,0,none⟩) m m) (W.alloc (.cells (madeCells #[vi 0] m) 3)) := by
 intro W
 obtain ⟨i0,hi,hz⟩ := Option.map_eq_some_iff.1 info3
 simp only [Prod.mk.injEq] at hz
 have hr := run_make (P := Try.prog) W 24 3 i0 (vi 0) Try.underlying24 hi hz.1 .i64 .i64 (m : Int) (m : Int) (by omega) (by omega) (by rw [hz.2.2];omega) (by omega)
 simp only [Int.toNat_natCast] at hr
 rw [hz.2.1,Nat.mul_one] at hr
 exact hr
def spec_SketchNew.Post (w : World) (e : Ending) (w' : World) : Prop := ∃ aa ab ad : Value,e = .returned (.agg #[vi 0,vi 0,vi 0,vi 0,aa,ab,ad]) ∧ Kd.R (Kd.int .i64) 3 w' w.heap.size (fun k_ => some k_ ≠ (ab : Value).ownBlock) aa (List.replicate 8 0) ∧ Kd.R (Kd.int .i64) 3 w' w.heap.size (fun k_ => some k_ ≠ (aa : Value).ownBlock) ab (List.replicate 8 0) ∧ Kd.S (Kd.slice 3 (Kd.int .i64)) 24 w' w.heap.size (fun k_ => some k_ ≠ (aa : Value).ownBlock ∧ some k_ ≠ (ab : Value).ownBlock) ad [List.replicate 4 0,List.replicate 4 0] ∧ Below w.heap.size w w'
theorem spec_SketchNew.at_ {W : World} {o : Obj} {p : Nat} (h : p = W.heap.size) : (W.alloc o).heap[p]? = some o := by
 subst h
 exact blk_new W o
theorem spec_SketchNew.fin (w W : World) (p1 p2 p3 p4 p5 : Nat)
  (h5 : W.heap[p5]? = some (.cells #[.slice (some ⟨p3,0,none⟩) 4 4,.slice (some ⟨p4,0,none⟩) 4 4] 24 (0,0)))
  (h1 : W.heap[p1]? = some (.cells (madeCells #[vi 0] 8) 3 (0,0))) (h2 : W.heap[p2]? = some (.cells (madeCells #[vi 0] 8) 3 (0,0))) (h3 : W.heap[p3]? = some (.cells (madeCells #[vi 0] 4) 3 (0,0))) (h4 : W.heap[p4]? = some (.cells (madeCells #[vi 0] 4) 3 (0,0)))
  (hp : w.heap.size ≤ p1 ∧ w.heap.size ≤ p2 ∧ w.heap.size ≤ p3 ∧ w.heap.size ≤ p4 ∧ w.heap.size ≤ p5) (hn : p1 ≠ p2 ∧ p3 ≠ p4 ∧ p3 ≠ p5 ∧ p4 ≠ p5 ∧ p1 ≠ p3 ∧ p1 ≠ p4 ∧ p1 ≠ p5 ∧ p2 ≠ p3 ∧ p2 ≠ p4 ∧ p2 ≠ p5) (hb : Below w.heap.size w W) :
  spec_SketchNew.Post w (.returned (.agg #[vi 0,vi 0,vi 0,vi 0,.slice (some ⟨p1,0,none⟩) 8 8,.slice (some ⟨p2,0,none⟩) 8 8,.slice (some ⟨p5,0,none⟩) 2 2])) W := by
 obtain ⟨b1,b2,b3,b4,b5⟩ := hp
 obtain ⟨n12,n34,n35,n45,n13,n14,n15,n23,n24,n25⟩ := hn
 refine ⟨_,_,_,rfl,spec_SketchNew.row (by omega) b1 h1 (by simp [Value.ownBlock];exact n12),spec_SketchNew.row (by omega) b2 h2 (by simp [Value.ownBlock];exact n12.symm),?_,hb⟩
 have hM : ∀ (j : Nat) (x : List Int),[List.replicate 4 (0 : Int),List.replicate 4 0][j]? = some x → (Kd.slice 3 (Kd.int .i64)).M W w.heap.size (fun k => k = (if j = 0 then p3 else p4)) x (([Value.slice (some ⟨p3,0,none⟩) 4 4,.slice (some ⟨p4,0,none⟩) 4 4].drop (j * 1)).take 1) := by
  intro j x hj
  match j,hj with
  | 0,hj => simp at hj;subst hj;exact ⟨_,rfl,spec_SketchNew.row (m := 4) (by omega) b3 h3 (by simp)⟩
  | 1,hj => simp at hj;subst hj;exact ⟨_,rfl,spec_SketchNew.row (m := 4) (by omega) b4 h4 (by simp)⟩
  | j + 2,hj => simp at hj
 obtain ⟨f,hr⟩ := Kd.reps_tag (d := Kd.slice 3 (Kd.int .i64)) (w := W) (base := w.heap.size) (ok := fun k => (some k ≠ (Value.slice (some ⟨p1,0,none⟩) 8 8).ownBlock ∧ some k ≠ (Value.slice (some ⟨p2,0,none⟩) 8 8).ownBlock) ∧ some k ≠ (Value.slice (some ⟨p5,0,none⟩) 2 2).ownBlock) (xs := [List.replicate 4 (0 : Int),List.replicate 4 0]) (inner := [.slice (some ⟨p3,0,none⟩) 4 4,.slice (some ⟨p4,0,none⟩) 4 4])
  (fun j k => k = (if j = 0 then p3 else p4) ∧ j < 2) (fun i j k hi hj => by
   obtain ⟨hi,hi2⟩ := hi
   obtain ⟨hj,ah⟩ := hj
   rw [hi] at hj
   by_cases e1 : i = 0 <;> by_cases e2 : j = 0 <;> simp [e1,e2] at hj <;> omega) (fun j k hk => by
   obtain ⟨hk,_⟩ := hk
   subst hk
   simp only [Value.ownBlock,Option.map_some,ne_eq,Option.some.injEq]
   split <;> refine ⟨⟨?_,?_⟩,?_⟩ <;> omega) rfl (fun j x hj => by
   have hlt : j < 2 := (List.getElem?_eq_some_iff.1 hj).1
   exact (Kd.slice 3 (Kd.int .i64)).M_mono (fun k hk => ⟨hk,hlt⟩) (hM j x hj))
 exact ⟨f,fun k hk => by
  have : p5 = k := by simpa [Value.ownBlock] using hk
  subst this
  simp only [Value.ownBlock,Option.map_some,ne_eq,Option.some.injEq]
  exact ⟨by omega,by omega⟩,_,⟨rfl,.inr ⟨p5,2,_,rfl,b5,h5,Nat.le_refl _,by simp [maxLen],rfl,rfl⟩⟩,hr⟩
theorem spec_SketchNew.walk (w : World) : Calls Try.prog 111 #[] w (spec_SketchNew.Post w) := by
 have m8 : ∀ W : World,(Instr.makeSlice 24 (vi 8) (vi 8)).run Try.prog W = .ok (.slice (some ⟨W.heap.size,0,none⟩) 8 8) (W.alloc (.cells (madeCells #[vi 0] 8) 3)) := spec_SketchNew.mk 8 (by omega)
 have m4 : ∀ W : World,(Instr.makeSlice 24 (vi 4) (vi 4)).run Try.prog W = .ok (.slice (some ⟨W.heap.size,0,none⟩) 4 4) (W.alloc (.cells (madeCells #[vi 0] 4) 3)) := spec_SketchNew.mk 4 (by omega)
 have F := spec_SketchNew.fin w
 generalize madeCells #[vi 0] 8 = M8 at m8 F
 generalize madeCells #[vi 0] 4 = M4 at m4 F
 have F' := mkA F
 clear F
 go_enter Try.func111,Try.ntmps111
 go_wp2
 go_region
 all_goals
  go_wp2
  refine bodyPost_ret (v := .agg #[vi 0,vi 0,vi 0,vi 0,.slice (some ⟨_,0,none⟩) 8 8,.slice (some ⟨_,0,none⟩) 8 8,.slice (some ⟨_,0,none⟩) 2 2]) (by simp [results,Try.results111,go_sem];refine ⟨rfl,rfl,rfl⟩) rfl ?_
  exact F'.out _ _ _ _ _ _ Z7x0 Z7x0 Z7x0 Z7x0 Z7x0 (by refine ⟨?_,?_,?_,?_,?_⟩ <;> omega) (by refine ⟨?_,?_,?_,?_,?_,?_,?_,?_,?_,?_⟩ <;> omega) (by repeat (with_reducible first | exact Below.refl _ _ | apply below_drew1 | apply below_alloc))
theorem spec_SketchNew.calls (r1 : Int) (r2 : Int) (r3 : Int) (r4 : Int) (r5 : List Int) (r6 : List Int) (r7 : List (List Int)) (w : World) (h : spec_SketchNew.f = some (r1,r2,r3,r4,r5,r6,r7)) :
  Calls Try.prog 111 #[] w fun e w' => ∃ aa ab ad : Value,e = .returned (.agg #[vi r1,vi r2,vi r3,vi r4,aa,ab,ad]) ∧ Kd.R (Kd.int .i64) 3 w' w.heap.size (fun k_ => some k_ ≠ (ab : Value).ownBlock) aa r5 ∧ Kd.R (Kd.int .i64) 3 w' w.heap.size (fun k_ => some k_ ≠ (aa : Value).ownBlock) ab r6 ∧ Kd.S (Kd.slice 3 (Kd.int .i64)) 24 w' w.heap.size (fun k_ => some k_ ≠ (aa : Value).ownBlock ∧ some k_ ≠ (ab : Value).ownBlock) ad r7 ∧ Below w.heap.size w w' := by
 simp only [spec_SketchNew.f,Option.some.injEq,Prod.mk.injEq] at h
 obtain ⟨rfl,rfl,rfl,rfl,rfl,rfl,rfl⟩ := h
 exact spec_SketchNew.walk w

def spec_l1Min.f (a0 : Int) (a1 : Int) : Option (Int) := if a0 < a1 then (some a0) else (some a1)
theorem spec_l1Min.calls (a0 : Int) (a1 : Int) (r : Int) (w : World) (h : spec_l1Min.f a0 a1 = some r) :
  Calls Try.prog 108 #[vi a0,vi a1] w fun e w' => e = .returned (vi r) ∧ Drawn0 w w' := by
 have H : (if a0 < a1 then (some a0) else (some a1)) = some r := h
 clear h
 by_cases c3 : a0 < a1
 ·rw [if_pos c3] at H
  have c3b0 : decide (a0 < a1) = true := decide_eq_true c3
  clear c3
  obtain rfl := Option.some.inj H
  simp only [Option.some.injEq,Prod.mk.injEq] at H
  obtain ⟨rfl⟩ := H
  go_enter Try.func108,Try.ntmps108
  go_wp2
  go_ret
  exact ⟨by first | rfl | (simp;done) | (simp [*];done),Z7x2⟩
 ·rw [if_neg c3] at H
  have c3b0 : decide (a0 < a1) = false := decide_eq_false c3
  clear c3
  obtain rfl := Option.some.inj H
  simp only [Option.some.injEq,Prod.mk.injEq] at H
  obtain ⟨rfl⟩ := H
  go_enter Try.func108,Try.ntmps108
  go_wp2
  go_ret
  exact ⟨by first | rfl | (simp;done) | (simp [*];done),Z7x2⟩

def spec_l1Max.f (a0 : Int) (a1 : Int) : Option (Int) := if a0 > a1 then (some a0) else (some a1)
theorem spec_l1Max.calls (a0 : Int) (a1 : Int) (r : Int) (w : World) (h : spec_l1Max.f a0 a1 = some r) :
  Calls Try.prog 109 #[vi a0,vi a1] w fun e w' => e = .returned (vi r) ∧ Drawn0 w w' := by
 have H : (if a0 > a1 then (some a0) else (some a1)) = some r := h
 clear h
 by_cases c3 : a0 > a1
 ·rw [if_pos c3] at H
  have c3b0 : decide (a1 < a0) = true := decide_eq_true c3
  clear c3
  obtain rfl := Option.some.inj H
  simp only [Option.some.injEq,Prod.mk.injEq] at H
  obtain ⟨rfl⟩ := H
  go_enter Try.func109,Try.ntmps109
  go_wp2
  go_ret
  exact ⟨by first | rfl | (simp;done) | (simp [*];done),Z7x2⟩
 ·rw [if_neg c3] at H
  have c3b0 : decide (a1 < a0) = false := decide_eq_false c3
  clear c3
  obtain rfl := Option.some.inj H
  simp only [Option.some.injEq,Prod.mk.injEq] at H
  obtain ⟨rfl⟩ := H
  go_enter Try.func109,Try.ntmps109
  go_wp2
  go_ret
  exact ⟨by first | rfl | (simp;done) | (simp [*];done),Z7x2⟩

def spec_l2Clip.f (a0 : Int) (a1 : Int) : Option (Int) := (spec_l1Min.f a0 a1).bind fun t215 => ((spec_l1Max.f 0 t215).bind fun t216 => (some t216))
theorem spec_l2Clip.calls (a0 : Int) (a1 : Int) (r : Int) (w : World) (h : spec_l2Clip.f a0 a1 = some r) :
  Calls Try.prog 117 #[vi a0,vi a1] w fun e w' => e = .returned (vi r) ∧ Drawn0 w w' := by
 have H := h
 unfold spec_l2Clip.f at H
 clear h
 replace H := Option.bind_eq_some_iff.mp H
 obtain ⟨t215,ae,H⟩ := H
 try dsimp only at H
 have A3 := mkA ae
 clear ae
 replace H := Option.bind_eq_some_iff.mp H
 obtain ⟨t216,af,H⟩ := H
 try dsimp only at H
 have A4 := mkA af
 clear af
 obtain rfl := Option.some.inj H
 simp only [Option.some.injEq,Prod.mk.injEq] at H
 obtain ⟨rfl⟩ := H
 go_enter Try.func117,Try.ntmps117
 go_wp2_with (first | ((with_reducible refine gate_callee (f := 108) rfl ?_);refine goesL_ (some 7) rfl rfl Try.func108 (by kernel_rfl) rfl #[vi a0,vi a1] rfl Z7x1 ?_;(with_reducible refine (spec_l1Min.calls a0 a1 t215 _ A3.out).mono ?_);rintro e w' ⟨rfl,⟨nd,rfl⟩⟩;refine ⟨_,rfl,?_⟩) | ((with_reducible refine gate_callee (f := 109) rfl ?_);refine goesL_ (some 8) rfl rfl Try.func109 (by kernel_rfl) rfl #[vi 0,vi t215] rfl Z7x1 ?_;(with_reducible refine (spec_l1Max.calls 0 t215 t216 _ A4.out).mono ?_);rintro e w' ⟨rfl,⟨nd,rfl⟩⟩;refine ⟨_,rfl,?_⟩))
 go_ret
 exact ⟨by first | rfl | (simp;done) | (simp [*];done),Z7x2⟩

def spec_Add.f (a0 : Int) (a1 : Int) : Option (Int) := (spec_l2Clip.f a0 1000000000).bind fun t217 => ((spec_l2Clip.f a1 1000000000).bind fun t218 => ((spec_l1Min.f (wrap64 (t217 + t218)) 1000000000).bind fun t219 => (some t219)))
theorem spec_Add.calls (a0 : Int) (a1 : Int) (r : Int) (w : World) (h : spec_Add.f a0 a1 = some r) :
  Calls Try.prog 107 #[vi a0,vi a1] w fun e w' => e = .returned (vi r) ∧ Drawn0 w w' := by
 have H := h
 unfold spec_Add.f at H
 clear h
 replace H := Option.bind_eq_some_iff.mp H
 obtain ⟨t217,ae,H⟩ := H
 try dsimp only at H
 have A3 := mkA ae
 clear ae
 replace H := Option.bind_eq_some_iff.mp H
 obtain ⟨t218,af,H⟩ := H
 try dsimp only at H
 have A4 := mkA af
 clear af
 replace H := Option.bind_eq_some_iff.mp H
 obtain ⟨t219,ag,H⟩ := H
 try dsimp only at H
 have A5 := mkA ag
 clear ag
 obtain rfl := Option.some.inj H
 simp only [Option.some.injEq,Prod.mk.injEq] at H
 obtain ⟨rfl⟩ := H
 go_enter Try.func107,Try.ntmps107
 go_wp2_with (first | ((with_reducible refine gate_callee (f := 117) rfl ?_);refine goesL_ (some 6) rfl rfl Try.func117 (by kernel_rfl) rfl #[vi a0,vi 1000000000] rfl Z7x1 ?_;(with_reducible refine (spec_l2Clip.calls a0 1000000000 t217 _ A3.out).mono ?_);rintro e w' ⟨rfl,⟨nd,rfl⟩⟩;refine ⟨_,rfl,?_⟩) | ((with_reducible refine gate_callee (f := 117) rfl ?_);refine goesL_ (some 8) rfl rfl Try.func117 (by kernel_rfl) rfl #[vi a1,vi 1000000000] rfl Z7x1 ?_;(with_reducible refine (spec_l2Clip.calls a1 1000000000 t218 _ A4.out).mono ?_);rintro e w' ⟨rfl,⟨nd,rfl⟩⟩;refine ⟨_,rfl,?_⟩) | ((with_reducible refine gate_callee (f := 108) rfl ?_);refine goesL_ (some 10) rfl rfl Try.func108 (by kernel_rfl) rfl #[vi (wrap64 (t217 + t218)),vi 1000000000] rfl Z7x1 ?_;(with_reducible refine (spec_l1Min.calls (wrap64 (t217 + t218)) 1000000000 t219 _ A5.out).mono ?_);rintro e w' ⟨rfl,⟨nd,rfl⟩⟩;refine ⟨_,rfl,?_⟩))
 go_ret
 exact ⟨by first | rfl | (simp;done) | (simp [*];done),Z7x2⟩

def spec_BucketOf.l0 : Nat → Int → Int → Option (Int)
 | 0,_,_ => none
 | k + 1,x3,x4 => if x3 > 0 then (spec_BucketOf.l0 k (wrap64 (Int.tdiv x3 2)) (wrap64 (x4 + 1))) else (some (wrap64 (Int.tdiv (wrap64 (x4 + 2)) 3)))
def spec_BucketOf.f (k : Nat) (a0 : Int) : Option (Int) := (spec_l2Clip.f a0 1000000).bind fun t220 => (spec_BucketOf.l0 k t220 0)
def spec_Mix.f (a0 : Int) : Option (Int) := (spec_l2Clip.f a0 1000000).bind fun t221 => (some (Go.bits .xor .i64 (Int.tmod (wrap64 ((wrap64 (t221 * 40503)) + 12345)) 65536) (wrap64 (Int.tdiv (Int.tmod (wrap64 ((wrap64 (t221 * 40503)) + 12345)) 65536) 256))))
def spec_RankOf.l0 : Nat → Int → Int → Option (Int)
 | 0,_,_ => none
 | k + 1,x3,x4 => if (Int.tmod x3 2) = 0 then (spec_RankOf.l0 k (wrap64 (Int.tdiv x3 2)) (wrap64 (x4 + 1))) else (some x4)
def spec_RankOf.f (k : Nat) (a0 : Int) : Option (Int) := (spec_Mix.f a0).bind fun t222 => (if t222 = 0 then (some 17) else (spec_RankOf.l0 k t222 1))
end Go.Proofs.Ytdciagkholijlaa.PFnEntries
