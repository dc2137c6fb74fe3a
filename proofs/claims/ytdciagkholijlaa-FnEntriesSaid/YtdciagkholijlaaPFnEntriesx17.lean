-- Written by this session's changed copy of the kit's printer (wip/patch_print.py): not the kit's own print.
import Derived.Test.YtdciagkholijlaaPFnEntriesx0
import Derived.Test.YtdciagkholijlaaPFnEntriesx7
import Derived.Test.YtdciagkholijlaaPFnEntriesx8
import Derived.Test.YtdciagkholijlaaPFnEntriesx16
namespace Go.Proofs.Ytdciagkholijlaa.PFnEntries
open Go.RowKit Go.Proofs.YtdciagkholijlaaW.PrintWords Go.Proofs.YtdciagkholijlaaW.PrintLast Go.Proofs.YtdciagkholijlaaW.PrintMore
attribute [local go_sem] max2_int min2_int max_two min_two max_three min_three max_four min_four   -- for this text's walks alone
set_option linter.unusedVariables false
set_option linter.unusedSimpArgs false
set_option maxHeartbeats 32000000
set_option maxRecDepth 100000
theorem Z17x0 {p : Prop} (h : p := by repeat (first | (with_reducible first | exact HB.out | apply below_alloc | apply pw_below_drewN | apply below_drew1 | refine below_set ?_ aV.out) | exact HB.out)) : p := h
theorem Z17x1 {p : Prop} (h : p := by repeat (first | (with_reducible first | exact HB.out | apply below_alloc | apply pw_below_drewN | apply below_drew1) | exact HB.out)) : p := h
theorem Z17x2 {p : Prop} (h : p := by repeat (first | (with_reducible first | exact HB.out | apply below_alloc | apply pw_below_drewN | apply below_drew1 | refine below_set ?_ aV.out | refine below_set ?_ aW.out) | exact HB.out)) : p := h
theorem Z17x3 {p : Prop} (h : p := by (with_reducible repeat (first | refine blk_drewN ?_ _ | refine blk_drew ?_ | refine blk_alloc ?_ _));exact ab.out) : p := h
theorem Z17x4 {p : Prop} (h : p := by rw [hg];exact Nat.ne_of_lt (blk_lt (g := aa) (o := .cells #[vi al,vi av,vi ao,vi aw,.slice az aj.length aA,.slice aB ai.length aC,.slice aD ak.length aE] 27 (0,0)) Z17x3)) : p := h
theorem Z17x5 {p : Prop} (h : p := by rw [hg];exact Nat.ne_of_gt (blk_lt (g := aa) (o := .cells #[vi al,vi av,vi ao,vi aw,.slice az aj.length aA,.slice aB ai.length aC,.slice aD ak.length aE] 27 (0,0)) Z17x3)) : p := h
theorem Z17x6 {p : Prop} (h : p := by first | rfl | (simp [errW_none,errW_some] <;> rfl) | (simp [*,errW_none,errW_some] <;> rfl)) : p := h
theorem Z17x7 {p : Prop} (h : p := by rw [hg];exact (below_size Z17x1)) : p := h
theorem Z17x8 {p : Prop} (h : p := by rw [hg];exact (below_size Z17x0)) : p := h
theorem Z17x9 {p : Prop} (h : p := by repeat (first | exact (Kd.C_below bM.out HB.out) | (with_reducible refine Kd.C_alloc ?_ _) | (with_reducible refine Kd.C_drewN ?_ _) | (with_reducible refine Kd.C_drew ?_))) : p := h
theorem Z17x10 {p : Prop} (h : p := by repeat (first | exact (Kd.C_below bN.out HB.out) | (with_reducible refine Kd.C_alloc ?_ _) | (with_reducible refine Kd.C_drewN ?_ _) | (with_reducible refine Kd.C_drew ?_))) : p := h
theorem Z17x11 {p : Prop} (h : p := by first | (with_reducible assumption) | assumption) : p := h

theorem rows2 {w : World} {A : Option Addr} {c : Nat} {R : List (List Int)} (h : (Kd.slice 3 (Kd.int .i64)).C w A R.length R) (hR : R.length = 2) :
  ∃ ad B0 e0 B1 e1,A = some ad ∧ w.cell? (ad.add 0) = some (.slice B0 (R.getD 0 []).length e0) ∧ w.cell? (ad.add 1) = some (.slice B1 (R.getD 1 []).length e1) ∧ (R.getD 0 []).length ≤ e0 ∧ (R.getD 1 []).length ≤ e1 ∧ (Kd.int .i64).C w B0 (R.getD 0 []).length (R.getD 0 []) ∧ (Kd.int .i64).C w B1 (R.getD 1 []).length (R.getD 1 []) := by
 have key : ∀ i : Nat,i < 2 → ∃ ad B e,A = some ad ∧ w.cell? (ad.add i) = some (.slice B (R.getD i []).length e) ∧ (R.getD i []).length ≤ e ∧ (Kd.int .i64).C w B (R.getD i []).length (R.getD i []) := by
  intro i hi
  obtain ⟨ad,c,e,_,hK,hc⟩ := Kd.C_get h ([] : List Int) (i : Int) (by omega) (by omega)
  obtain ⟨A0,c0,rfl,hl,hC⟩ := hK
  have h1 := hc 0 _ rfl
  have hs : (Kd.slice 3 (Kd.int .i64)).sz = 1 := rfl
  rw [Int.toNat_natCast] at h1 hC hl
  rw [hs,Nat.mul_one,Nat.add_zero] at h1
  exact ⟨ad,A0,c0,e,h1,hl,hC⟩
 obtain ⟨ad,B0,e0,ha,h1,h2,h3⟩ := key 0 (by omega)
 obtain ⟨ad',B1,e1,ha',h4,h5,h6⟩ := key 1 (by omega)
 rw [ha] at ha'
 injection ha' with ha'
 subst ha'
 exact ⟨ad,B0,e0,B1,e1,ha,h1,h4,h2,h5,h3,h6⟩
theorem lit_S {W : World} {base p0 p1 gl : Nat} {c0 c1 : Nat} {v0 v1 : Value} {l0 l1 : List Int} {ok : Nat → Prop} (e0 : v0 = .slice (some ⟨p0,0,none⟩) l0.length c0) (e1 : v1 = .slice (some ⟨p1,0,none⟩) l1.length c1)
  (hg : W.heap[gl]? = some (.cells #[v0,v1] 24 (0,0))) (h0 : Kd.R (Kd.int .i64) 3 W base (fun k => k = p0) v0 l0) (h1 : Kd.R (Kd.int .i64) 3 W base (fun k => k = p1) v1 l1)
  (hn : p0 ≠ p1 ∧ p0 ≠ gl ∧ p1 ≠ gl) (hb : base ≤ gl) (ho : ok p0 ∧ ok p1 ∧ ok gl) : Kd.S (Kd.slice 3 (Kd.int .i64)) 24 W base ok (.slice (some ⟨gl,0,none⟩) 2 2) [l0,l1] := by
 have hM : ∀ (j : Nat) (x : List Int),[l0,l1][j]? = some x → (Kd.slice 3 (Kd.int .i64)).M W base (fun k => k = (if j = 0 then p0 else p1)) x (([v0,v1].drop (j * 1)).take 1) := by
  intro j x hj
  match j,hj with
  | 0,hj => simp at hj;subst hj;exact ⟨_,rfl,h0⟩
  | 1,hj => simp at hj;subst hj;exact ⟨_,rfl,h1⟩
  | j + 2,hj => simp at hj
 obtain ⟨f,hr⟩ := Kd.reps_tag (d := Kd.slice 3 (Kd.int .i64)) (w := W) (base := base) (ok := fun k => ok k ∧ some k ≠ (Value.slice (some ⟨gl,0,none⟩) 2 2).ownBlock) (xs := [l0,l1]) (inner := [v0,v1])
  (fun j k => k = (if j = 0 then p0 else p1) ∧ j < 2) (fun i j k hi hj => by
   obtain ⟨hi,hi2⟩ := hi
   obtain ⟨hj,ih⟩ := hj
   rw [hi] at hj
   by_cases e1 : i = 0 <;> by_cases e2 : j = 0 <;> simp [e1,e2] at hj <;> omega) (fun j k hk => by
   obtain ⟨hk,_⟩ := hk
   subst hk
   simp only [Value.ownBlock,Option.map_some,ne_eq,Option.some.injEq]
   split
   ·exact ⟨ho.1,hn.2.1⟩
   ·exact ⟨ho.2.1,hn.2.2⟩) rfl (fun j x hj => by
   have hlt : j < 2 := (List.getElem?_eq_some_iff.1 hj).1
   exact (Kd.slice 3 (Kd.int .i64)).M_mono (fun k hk => ⟨hk,hlt⟩) (hM j x hj))
 exact ⟨f,fun k hk => by
  have : gl = k := by simpa [Value.ownBlock] using hk
  subst this
  exact ho.2.2,_,⟨rfl,.inr ⟨gl,2,_,rfl,hb,hg,Nat.le_refl _,by simp [maxLen],rfl,rfl⟩⟩,hr⟩
structure L3F (w W : World) (A0 B0 : Array Value) : Prop where
 a : Bx W w.heap.size 27 A0
 b : Bx W (w.heap.size + 1) 27 B0
 o : Bx W (w.heap.size + 2) 27 #[vi 0,vi 0,vi 0,vi 0,.slice none 0 0,.slice none 0 0,.slice none 0 0]
 l : Below w.heap.size w W
theorem L3F.below {w W W' : World} {A0 B0 : Array Value} (f : L3F w W A0 B0) (hb : Below W.heap.size W W') : L3F w W' A0 B0 := ⟨f.a.below hb,f.b.below hb,f.o.below hb,below_step f.l hb⟩
theorem L3F.kp {w W W' : World} {A0 B0 : Array Value} {g : Nat} (f : L3F w W A0 B0) (k : Kp W W' g (g + 1)) (h : w.heap.size + 2 < g) : L3F w W' A0 B0 :=
 ⟨f.a.kp k (.inl (by omega)),f.b.kp k (.inl (by omega)),f.o.kp k (.inl h),below_kp f.l k (by omega) f.l.size⟩
theorem row_to {w6 W : World} {b b0 g n c : Nat} {ok : Nat → Prop} {l : List Int} (J : Kd.R (Kd.int .i64) 3 w6 b ok (.slice (some ⟨g,0,none⟩) n c) l) (hb : Below w6.heap.size w6 W) (h : b0 ≤ b) : Kd.R (Kd.int .i64) 3 W b0 (fun k => k = g) (.slice (some ⟨g,0,none⟩) n c) l :=
 Kd.R_below (Kd.R_lower (Kd.R_reok rfl J (fun k hk => by
  have : g = k := by simpa [Value.ownBlock] using hk
  exact this.symm)) h) hb
theorem sz_alloc (w : World) (o : Obj) : w.heap.size ≤ (w.alloc o).heap.size := by simp
theorem sz_alloc1 {w : World} {o : Obj} {n : Nat} (h : (w.alloc o).heap.size ≤ n) : w.heap.size + 1 ≤ n := by simpa using h
structure L3I (w wc : World) (AA BB : Array Value) (g5 n0 : Nat) (cs : Array Value) (vh vr vz : Value) (HZ G : List Int) (ZZ : List (List Int)) : Prop where
 F : L3F w wc AA BB
 X : Bx wc g5 27 cs
 H : Kd.R (Kd.int .i64) 3 wc (w.heap.size + 3) (fun k => k ≠ g5 ∧ k < n0 ∧ w.heap.size + 2 < k) vh HZ
 Z : Kd.S (Kd.slice 3 (Kd.int .i64)) 24 wc (w.heap.size + 3) (fun k => k ≠ g5 ∧ k < n0 ∧ w.heap.size + 2 < k ∧ some k ≠ vh.ownBlock) vz ZZ
 G : Kd.R (Kd.int .i64) 3 wc (w.heap.size + 3) (fun k => n0 ≤ k) vr G
 lo : w.heap.size + 2 < g5
 hi : g5 < n0
 n : n0 ≤ wc.heap.size
theorem l3_fin {w W wc : World} {AA BB : Array Value} {g5 gh g6 g7 gl ch c6 c7 : Nat} {HZ Z0 Z1 : List Int} {CA CS LM HM : Int} (F : L3F w wc AA BB)
  (X : Bx wc g5 27 #[vi CA,vi CS,vi LM,vi HM,.slice (some ⟨gh,0,none⟩) HZ.length ch,.slice none 0 0,.slice (some ⟨gl,0,none⟩) 2 2])
  (hm : ∀ k,k < W.heap.size → k ≠ g5 → wc.heap[k]? = W.heap[k]?) (hs : W.heap.size ≤ wc.heap.size)
  (J5 : Kd.R (Kd.int .i64) 3 W (w.heap.size + 3) (fun k => k = gh) (.slice (some ⟨gh,0,none⟩) HZ.length ch) HZ)
  (J6 : Kd.R (Kd.int .i64) 3 W (w.heap.size + 3) (fun k => k = g6) (.slice (some ⟨g6,0,none⟩) Z0.length c6) Z0)
  (J7 : Kd.R (Kd.int .i64) 3 W (w.heap.size + 3) (fun k => k = g7) (.slice (some ⟨g7,0,none⟩) Z1.length c7) Z1)
  (hl : W.heap[gl]? = some (.cells #[.slice (some ⟨g6,0,none⟩) Z0.length c6,.slice (some ⟨g7,0,none⟩) Z1.length c7] 24 (0,0)))
  (hn : (gh ≠ g6 ∧ gh ≠ g7 ∧ gh ≠ gl ∧ g6 ≠ g7 ∧ g6 ≠ gl ∧ g7 ≠ gl) ∧ (gh ≠ g5 ∧ g6 ≠ g5 ∧ g7 ≠ g5 ∧ gl ≠ g5) ∧ (gh < W.heap.size ∧ g6 < W.heap.size ∧ g7 < W.heap.size ∧ gl < W.heap.size) ∧ (w.heap.size + 2 < gh ∧ w.heap.size + 2 < g6 ∧ w.heap.size + 2 < g7 ∧ w.heap.size + 2 < gl) ∧ w.heap.size + 2 < g5) :
  L3I w wc AA BB g5 wc.heap.size #[vi CA,vi CS,vi LM,vi HM,.slice (some ⟨gh,0,none⟩) HZ.length ch,.slice none 0 0,.slice (some ⟨gl,0,none⟩) 2 2] (.slice (some ⟨gh,0,none⟩) HZ.length ch) (.slice none 0 0) (.slice (some ⟨gl,0,none⟩) 2 2) HZ [] [Z0,Z1] := by
 obtain ⟨⟨n1,n2,n3,n4,n5,n6⟩,⟨m1,m2,m3,m4⟩,⟨l1,l2,l3,l4⟩,⟨p1,p2,p3,p4⟩,h5⟩ := hn
 have hb : w.heap.size + 3 ≤ gl := by omega
 have hX := X.lt
 refine ⟨F,X,?_,?_,Kd.R_nil _ _ _ _ _,h5,hX,Nat.le_refl _⟩
 ·exact Kd.R_mono (Kd.R_move J5 (fun k hk => hm k (by omega) (by omega))) (fun k hk => ⟨by omega,by omega,by omega⟩)
 ·have s := lit_S (ok := fun k => k = g6 ∨ k = g7 ∨ k = gl) rfl rfl hl J6 J7 ⟨n4,n5,n6⟩ hb ⟨.inl rfl,.inr (.inl rfl),.inr (.inr rfl)⟩
  refine Kd.S_mono (Kd.S_move s (fun k hk => hm k (by omega) (by omega))) (fun k hk => ⟨by omega,by omega,by omega,fun e => ?_⟩)
  have : k = gh := by simpa [Value.ownBlock] using e
  omega
theorem sz_al' (w : World) (o : Obj) : (w.alloc o).heap.size = w.heap.size + 1 := by simp
theorem l3_finC {w w7 : World} {AA BB : Array Value} {g5 q5 g6 q6 g7 q7 : Nat} {HZ Z0 Z1 : List Int} {CA CS LM HM : Int} (F : L3F w w7 AA BB) {gB : Nat} (Y : Bx w7 gB 27 #[vi 0,vi 0,vi 0,vi 0,.slice none 0 0,.slice none 0 0,.slice none 0 0]) (J5 : Kd.R (Kd.int .i64) 3 w7 (w.heap.size + 3) (fun k => k = g5) (.slice (some ⟨g5,0,none⟩) HZ.length q5) HZ) (J6 : Kd.R (Kd.int .i64) 3 w7 (w.heap.size + 3) (fun k => k = g6) (.slice (some ⟨g6,0,none⟩) Z0.length q6) Z0) (J7 : Kd.R (Kd.int .i64) 3 w7 (w.heap.size + 3) (fun k => k = g7) (.slice (some ⟨g7,0,none⟩) Z1.length q7) Z1) (hn : w.heap.size + 2 < gB ∧ g5 ≠ gB ∧ g6 ≠ gB ∧ g7 ≠ gB ∧ g5 ≠ g6 ∧ g5 ≠ g7 ∧ g6 ≠ g7 ∧ g5 < w7.heap.size ∧ g6 < w7.heap.size ∧ g7 < w7.heap.size ∧ w.heap.size + 2 < g5 ∧ w.heap.size + 2 < g6 ∧ w.heap.size + 2 < g7 ∧ w.heap.size + 2 < w7.heap.size) : L3I w (((((((((w7.alloc (.cells #[.slice (some ⟨g6,0,none⟩) Z0.length q6,.slice (some ⟨g7,0,none⟩) Z1.length q7] 24)).setCell ⟨gB,0,none⟩ (vi CA)).setCell ⟨gB,1,none⟩ (vi CS)).setCell ⟨gB,2,none⟩ (vi LM)).setCell ⟨gB,3,none⟩ (vi HM)).setCell ⟨gB,4,none⟩ (.slice (some ⟨g5,0,none⟩) HZ.length q5)).setCell ⟨gB,5,none⟩ (.slice none 0 0)).setCell ⟨gB,6,none⟩ (.slice (some ⟨w7.heap.size,0,none⟩) 2 2))) AA BB (gB) (((((((((w7.alloc (.cells #[.slice (some ⟨g6,0,none⟩) Z0.length q6,.slice (some ⟨g7,0,none⟩) Z1.length q7] 24)).setCell ⟨gB,0,none⟩ (vi CA)).setCell ⟨gB,1,none⟩ (vi CS)).setCell ⟨gB,2,none⟩ (vi LM)).setCell ⟨gB,3,none⟩ (vi HM)).setCell ⟨gB,4,none⟩ (.slice (some ⟨g5,0,none⟩) HZ.length q5)).setCell ⟨gB,5,none⟩ (.slice none 0 0)).setCell ⟨gB,6,none⟩ (.slice (some ⟨w7.heap.size,0,none⟩) 2 2))).heap.size #[vi CA,vi CS,vi LM,vi HM,.slice (some ⟨g5,0,none⟩) HZ.length q5,.slice none 0 0,.slice (some ⟨w7.heap.size,0,none⟩) 2 2] (.slice (some ⟨g5,0,none⟩) HZ.length q5) (.slice none 0 0) (.slice (some ⟨w7.heap.size,0,none⟩) 2 2) HZ [] [Z0,Z1] := by
 have hk := (Y.below (below_alloc (Below.refl _ w7) (.cells #[.slice (some ⟨g6,0,none⟩) Z0.length q6,.slice (some ⟨g7,0,none⟩) Z1.length q7] 24))).fill (vi CA) (vi CS) (vi LM) (vi HM) (.slice (some ⟨g5,0,none⟩) HZ.length q5) (.slice none 0 0) (.slice (some ⟨w7.heap.size,0,none⟩) 2 2)
 have e := sz_al' w7 (.cells #[.slice (some ⟨g6,0,none⟩) Z0.length q6,.slice (some ⟨g7,0,none⟩) Z1.length q7] 24)
 have y := Y.lt
 exact l3_fin (W := w7.alloc (.cells #[.slice (some ⟨g6,0,none⟩) Z0.length q6,.slice (some ⟨g7,0,none⟩) Z1.length q7] 24)) (L3F.kp (F.below (below_alloc (Below.refl _ w7) (.cells #[.slice (some ⟨g6,0,none⟩) Z0.length q6,.slice (some ⟨g7,0,none⟩) Z1.length q7] 24))) hk.2 (by omega)) hk.1 (fun k h1 h2 => hk.2.kept.2 k h1 (by omega)) hk.2.kept.1 (Kd.R_below J5 (below_alloc (Below.refl _ w7) (.cells #[.slice (some ⟨g6,0,none⟩) Z0.length q6,.slice (some ⟨g7,0,none⟩) Z1.length q7] 24))) (Kd.R_below J6 (below_alloc (Below.refl _ w7) (.cells #[.slice (some ⟨g6,0,none⟩) Z0.length q6,.slice (some ⟨g7,0,none⟩) Z1.length q7] 24))) (Kd.R_below J7 (below_alloc (Below.refl _ w7) (.cells #[.slice (some ⟨g6,0,none⟩) Z0.length q6,.slice (some ⟨g7,0,none⟩) Z1.length q7] 24))) (blk_new _ _) (by have := F.l.size;omega)
theorem l3_finA {w w7 : World} {AA BB : Array Value} {g5 q5 g6 q6 g7 q7 : Nat} {HZ Z0 Z1 : List Int} {CA CS LM HM : Int} (F : L3F w w7 AA BB) (J5 : Kd.R (Kd.int .i64) 3 w7 (w.heap.size + 3) (fun k => k = g5) (.slice (some ⟨g5,0,none⟩) HZ.length q5) HZ) (J6 : Kd.R (Kd.int .i64) 3 w7 (w.heap.size + 3) (fun k => k = g6) (.slice (some ⟨g6,0,none⟩) Z0.length q6) Z0) (J7 : Kd.R (Kd.int .i64) 3 w7 (w.heap.size + 3) (fun k => k = g7) (.slice (some ⟨g7,0,none⟩) Z1.length q7) Z1) (hn : w.heap.size + 2 < w7.heap.size + 1 ∧ g5 ≠ w7.heap.size + 1 ∧ g6 ≠ w7.heap.size + 1 ∧ g7 ≠ w7.heap.size + 1 ∧ g5 ≠ g6 ∧ g5 ≠ g7 ∧ g6 ≠ g7 ∧ g5 < w7.heap.size ∧ g6 < w7.heap.size ∧ g7 < w7.heap.size ∧ w.heap.size + 2 < g5 ∧ w.heap.size + 2 < g6 ∧ w.heap.size + 2 < g7 ∧ w.heap.size + 2 < w7.heap.size) : L3I w (((w7.alloc (.cells #[.slice (some ⟨g6,0,none⟩) Z0.length q6,.slice (some ⟨g7,0,none⟩) Z1.length q7] 24)).alloc (.cells #[vi CA,vi CS,vi LM,vi HM,.slice (some ⟨g5,0,none⟩) HZ.length q5,.slice none 0 0,.slice (some ⟨w7.heap.size,0,none⟩) 2 2] 27))) AA BB (w7.heap.size + 1) (((w7.alloc (.cells #[.slice (some ⟨g6,0,none⟩) Z0.length q6,.slice (some ⟨g7,0,none⟩) Z1.length q7] 24)).alloc (.cells #[vi CA,vi CS,vi LM,vi HM,.slice (some ⟨g5,0,none⟩) HZ.length q5,.slice none 0 0,.slice (some ⟨w7.heap.size,0,none⟩) 2 2] 27))).heap.size #[vi CA,vi CS,vi LM,vi HM,.slice (some ⟨g5,0,none⟩) HZ.length q5,.slice none 0 0,.slice (some ⟨w7.heap.size,0,none⟩) 2 2] (.slice (some ⟨g5,0,none⟩) HZ.length q5) (.slice none 0 0) (.slice (some ⟨w7.heap.size,0,none⟩) 2 2) HZ [] [Z0,Z1] := by
 have e := sz_al' w7 (.cells #[.slice (some ⟨g6,0,none⟩) Z0.length q6,.slice (some ⟨g7,0,none⟩) Z1.length q7] 24)
 have e2 := sz_al' (w7.alloc (.cells #[.slice (some ⟨g6,0,none⟩) Z0.length q6,.slice (some ⟨g7,0,none⟩) Z1.length q7] 24)) (.cells #[vi CA,vi CS,vi LM,vi HM,.slice (some ⟨g5,0,none⟩) HZ.length q5,.slice none 0 0,.slice (some ⟨w7.heap.size,0,none⟩) 2 2] 27)
 have X := Bx.new (w7.alloc (.cells #[.slice (some ⟨g6,0,none⟩) Z0.length q6,.slice (some ⟨g7,0,none⟩) Z1.length q7] 24)) 27 #[vi CA,vi CS,vi LM,vi HM,.slice (some ⟨g5,0,none⟩) HZ.length q5,.slice none 0 0,.slice (some ⟨w7.heap.size,0,none⟩) 2 2]
 rw [e] at X
 exact l3_fin (W := (w7.alloc (.cells #[.slice (some ⟨g6,0,none⟩) Z0.length q6,.slice (some ⟨g7,0,none⟩) Z1.length q7] 24))) ((F.below (below_alloc (Below.refl _ w7) (.cells #[.slice (some ⟨g6,0,none⟩) Z0.length q6,.slice (some ⟨g7,0,none⟩) Z1.length q7] 24))).below (below_alloc (Below.refl _ (w7.alloc (.cells #[.slice (some ⟨g6,0,none⟩) Z0.length q6,.slice (some ⟨g7,0,none⟩) Z1.length q7] 24))) (.cells #[vi CA,vi CS,vi LM,vi HM,.slice (some ⟨g5,0,none⟩) HZ.length q5,.slice none 0 0,.slice (some ⟨w7.heap.size,0,none⟩) 2 2] 27))) X (fun k h1 h2 => (below_alloc (Below.refl _ (w7.alloc (.cells #[.slice (some ⟨g6,0,none⟩) Z0.length q6,.slice (some ⟨g7,0,none⟩) Z1.length q7] 24))) (.cells #[vi CA,vi CS,vi LM,vi HM,.slice (some ⟨g5,0,none⟩) HZ.length q5,.slice none 0 0,.slice (some ⟨w7.heap.size,0,none⟩) 2 2] 27)).block k h1) (by omega) (Kd.R_below J5 (below_alloc (Below.refl _ w7) (.cells #[.slice (some ⟨g6,0,none⟩) Z0.length q6,.slice (some ⟨g7,0,none⟩) Z1.length q7] 24))) (Kd.R_below J6 (below_alloc (Below.refl _ w7) (.cells #[.slice (some ⟨g6,0,none⟩) Z0.length q6,.slice (some ⟨g7,0,none⟩) Z1.length q7] 24))) (Kd.R_below J7 (below_alloc (Below.refl _ w7) (.cells #[.slice (some ⟨g6,0,none⟩) Z0.length q6,.slice (some ⟨g7,0,none⟩) Z1.length q7] 24))) (blk_new _ _) (by have := F.l.size;omega)
theorem l3_finB {w w7 : World} {AA BB : Array Value} {g5 q5 g6 q6 g7 q7 : Nat} {HZ Z0 Z1 : List Int} {CA CS LM HM : Int} (F : L3F w w7 AA BB) (J5 : Kd.R (Kd.int .i64) 3 w7 (w.heap.size + 3) (fun k => k = g5) (.slice (some ⟨g5,0,none⟩) HZ.length q5) HZ) (J6 : Kd.R (Kd.int .i64) 3 w7 (w.heap.size + 3) (fun k => k = g6) (.slice (some ⟨g6,0,none⟩) Z0.length q6) Z0) (J7 : Kd.R (Kd.int .i64) 3 w7 (w.heap.size + 3) (fun k => k = g7) (.slice (some ⟨g7,0,none⟩) Z1.length q7) Z1) (hn : w.heap.size + 2 < w7.heap.size ∧ g5 ≠ w7.heap.size ∧ g6 ≠ w7.heap.size ∧ g7 ≠ w7.heap.size ∧ g5 ≠ g6 ∧ g5 ≠ g7 ∧ g6 ≠ g7 ∧ g5 < w7.heap.size ∧ g6 < w7.heap.size ∧ g7 < w7.heap.size ∧ w.heap.size + 2 < g5 ∧ w.heap.size + 2 < g6 ∧ w.heap.size + 2 < g7 ∧ w.heap.size + 2 < w7.heap.size) : L3I w (((w7.alloc (.cells #[vi CA,vi CS,vi LM,vi HM,.slice (some ⟨g5,0,none⟩) HZ.length q5,.slice none 0 0,.slice (some ⟨w7.heap.size + 1,0,none⟩) 2 2] 27)).alloc (.cells #[.slice (some ⟨g6,0,none⟩) Z0.length q6,.slice (some ⟨g7,0,none⟩) Z1.length q7] 24))) AA BB (w7.heap.size) (((w7.alloc (.cells #[vi CA,vi CS,vi LM,vi HM,.slice (some ⟨g5,0,none⟩) HZ.length q5,.slice none 0 0,.slice (some ⟨w7.heap.size + 1,0,none⟩) 2 2] 27)).alloc (.cells #[.slice (some ⟨g6,0,none⟩) Z0.length q6,.slice (some ⟨g7,0,none⟩) Z1.length q7] 24))).heap.size #[vi CA,vi CS,vi LM,vi HM,.slice (some ⟨g5,0,none⟩) HZ.length q5,.slice none 0 0,.slice (some ⟨w7.heap.size + 1,0,none⟩) 2 2] (.slice (some ⟨g5,0,none⟩) HZ.length q5) (.slice none 0 0) (.slice (some ⟨w7.heap.size + 1,0,none⟩) 2 2) HZ [] [Z0,Z1] := by
 have e := sz_al' w7 (.cells #[vi CA,vi CS,vi LM,vi HM,.slice (some ⟨g5,0,none⟩) HZ.length q5,.slice none 0 0,.slice (some ⟨w7.heap.size + 1,0,none⟩) 2 2] 27)
 have e2 := sz_al' (w7.alloc (.cells #[vi CA,vi CS,vi LM,vi HM,.slice (some ⟨g5,0,none⟩) HZ.length q5,.slice none 0 0,.slice (some ⟨w7.heap.size + 1,0,none⟩) 2 2] 27)) (.cells #[.slice (some ⟨g6,0,none⟩) Z0.length q6,.slice (some ⟨g7,0,none⟩) Z1.length q7] 24)
 have hl := blk_new (w7.alloc (.cells #[vi CA,vi CS,vi LM,vi HM,.slice (some ⟨g5,0,none⟩) HZ.length q5,.slice none 0 0,.slice (some ⟨w7.heap.size + 1,0,none⟩) 2 2] 27)) (.cells #[.slice (some ⟨g6,0,none⟩) Z0.length q6,.slice (some ⟨g7,0,none⟩) Z1.length q7] 24)
 rw [e] at hl
 exact l3_fin (W := ((w7.alloc (.cells #[vi CA,vi CS,vi LM,vi HM,.slice (some ⟨g5,0,none⟩) HZ.length q5,.slice none 0 0,.slice (some ⟨w7.heap.size + 1,0,none⟩) 2 2] 27)).alloc (.cells #[.slice (some ⟨g6,0,none⟩) Z0.length q6,.slice (some ⟨g7,0,none⟩) Z1.length q7] 24))) ((F.below (below_alloc (Below.refl _ w7) (.cells #[vi CA,vi CS,vi LM,vi HM,.slice (some ⟨g5,0,none⟩) HZ.length q5,.slice none 0 0,.slice (some ⟨w7.heap.size + 1,0,none⟩) 2 2] 27))).below (below_alloc (Below.refl _ (w7.alloc (.cells #[vi CA,vi CS,vi LM,vi HM,.slice (some ⟨g5,0,none⟩) HZ.length q5,.slice none 0 0,.slice (some ⟨w7.heap.size + 1,0,none⟩) 2 2] 27))) (.cells #[.slice (some ⟨g6,0,none⟩) Z0.length q6,.slice (some ⟨g7,0,none⟩) Z1.length q7] 24))) ((Bx.new w7 27 #[vi CA,vi CS,vi LM,vi HM,.slice (some ⟨g5,0,none⟩) HZ.length q5,.slice none 0 0,.slice (some ⟨w7.heap.size + 1,0,none⟩) 2 2]).below (below_alloc (Below.refl _ (w7.alloc (.cells #[vi CA,vi CS,vi LM,vi HM,.slice (some ⟨g5,0,none⟩) HZ.length q5,.slice none 0 0,.slice (some ⟨w7.heap.size + 1,0,none⟩) 2 2] 27))) (.cells #[.slice (some ⟨g6,0,none⟩) Z0.length q6,.slice (some ⟨g7,0,none⟩) Z1.length q7] 24))) (fun k h1 h2 => rfl) (Nat.le_refl _) (Kd.R_below J5 (below_step (below_alloc (Below.refl _ w7) (.cells #[vi CA,vi CS,vi LM,vi HM,.slice (some ⟨g5,0,none⟩) HZ.length q5,.slice none 0 0,.slice (some ⟨w7.heap.size + 1,0,none⟩) 2 2] 27)) (below_alloc (Below.refl _ (w7.alloc (.cells #[vi CA,vi CS,vi LM,vi HM,.slice (some ⟨g5,0,none⟩) HZ.length q5,.slice none 0 0,.slice (some ⟨w7.heap.size + 1,0,none⟩) 2 2] 27))) (.cells #[.slice (some ⟨g6,0,none⟩) Z0.length q6,.slice (some ⟨g7,0,none⟩) Z1.length q7] 24)))) (Kd.R_below J6 (below_step (below_alloc (Below.refl _ w7) (.cells #[vi CA,vi CS,vi LM,vi HM,.slice (some ⟨g5,0,none⟩) HZ.length q5,.slice none 0 0,.slice (some ⟨w7.heap.size + 1,0,none⟩) 2 2] 27)) (below_alloc (Below.refl _ (w7.alloc (.cells #[vi CA,vi CS,vi LM,vi HM,.slice (some ⟨g5,0,none⟩) HZ.length q5,.slice none 0 0,.slice (some ⟨w7.heap.size + 1,0,none⟩) 2 2] 27))) (.cells #[.slice (some ⟨g6,0,none⟩) Z0.length q6,.slice (some ⟨g7,0,none⟩) Z1.length q7] 24)))) (Kd.R_below J7 (below_step (below_alloc (Below.refl _ w7) (.cells #[vi CA,vi CS,vi LM,vi HM,.slice (some ⟨g5,0,none⟩) HZ.length q5,.slice none 0 0,.slice (some ⟨w7.heap.size + 1,0,none⟩) 2 2] 27)) (below_alloc (Below.refl _ (w7.alloc (.cells #[vi CA,vi CS,vi LM,vi HM,.slice (some ⟨g5,0,none⟩) HZ.length q5,.slice none 0 0,.slice (some ⟨w7.heap.size + 1,0,none⟩) 2 2] 27))) (.cells #[.slice (some ⟨g6,0,none⟩) Z0.length q6,.slice (some ⟨g7,0,none⟩) Z1.length q7] 24)))) hl (by have := F.l.size;omega)
theorem cell_same {W W' : World} {a : Addr} {v : Value} (hc : W.cell? a = some v) (h : W'.heap[a.block]? = W.heap[a.block]?) : W'.cell? a = some v := by
 unfold World.cell? at hc ⊢
 rw [h]
 exact hc
theorem al_keep {W : World} (o : Obj) {k : Nat} (h : k < W.heap.size) : (W.alloc o).heap[k]? = W.heap[k]? := (below_alloc (Below.refl W.heap.size W) o).block k h
theorem set_keep {W : World} {g j : Nat} (v : Value) {k : Nat} (h : k ≠ g) : (W.setCell ⟨g,j,none⟩ v).heap[k]? = W.heap[k]? := Below.heap_setCell W ⟨g,j,none⟩ v k h
theorem L3I.drew {w W : World} {AA BB cs : Array Value} {g n0 : Nat} {vh vr vz : Value} {HZ G : List Int} {ZZ : List (List Int)} (m : L3I w W AA BB g n0 cs vh vr vz HZ G ZZ) : L3I w W.drew AA BB g n0 cs vh vr vz HZ G ZZ :=
 ⟨m.F.below (below_drew (Below.refl _ _)),m.X,Kd.R_move m.H (fun _ _ => rfl),Kd.S_move m.Z (fun _ _ => rfl),Kd.R_move m.G (fun _ _ => rfl),m.lo,m.hi,m.n⟩
theorem L3I.gkeep {w W w1 : World} {AA BB cs : Array Value} {g n0 : Nat} {vh vr vz : Value} {HZ G : List Int} {ZZ : List (List Int)} (m : L3I w W AA BB g n0 cs vh vr vz HZ G ZZ) (hg : W.grownBy w1 vr.ownBlock) : ∀ k,k < n0 → k ≠ g → w1.heap[k]? = W.heap[k]? :=
 fun k hk _ => hg.block k (Nat.lt_of_lt_of_le hk m.n) (fun e => by have := m.G.1 k e.symm;omega)
theorem L3I.grow {w W w1 : World} {AA BB cs : Array Value} {g n0 : Nat} {vh vr vz v1 : Value} {HZ G G1 : List Int} {ZZ : List (List Int)} (m : L3I w W AA BB g n0 cs vh vr vz HZ G ZZ) (hg : W.grownBy w1 vr.ownBlock) (hb : Below (w.heap.size + 3) W w1) (ho : Kd.R (Kd.int .i64) 3 w1 (w.heap.size + 3) (fun k => n0 ≤ k) v1 G1) : L3I w w1 AA BB g n0 cs vh v1 vz HZ G1 ZZ := by
 have key : ∀ k,k < n0 → w1.heap[k]? = W.heap[k]? := fun k hk => hg.block k (Nat.lt_of_lt_of_le hk m.n) (fun e => by have := m.G.1 k e.symm;omega)
 have o1 := m.lo
 have o2 := m.hi
 exact ⟨⟨(key _ (by omega)).trans m.F.a,(key _ (by omega)).trans m.F.b,(key _ (by omega)).trans m.F.o,m.F.l.trans ⟨hb.os,hb.tape,hb.output,hb.size,fun i hi => hb.block i (by omega)⟩⟩,(key _ o2).trans m.X,Kd.R_move m.H (fun k hk => key k hk.2.1),Kd.S_move m.Z (fun k hk => key k hk.2.1),ho,o1,o2,Nat.le_trans m.n hb.size⟩
def l3ld : Op := Op.load 24 (Operand.tmp 68)
theorem L3I.sk {w W : World} {AA BB cs : Array Value} {g n0 : Nat} {x y z : Sl} {HZ G : List Int} {ZZ : List (List Int)} (m : L3I w W AA BB g n0 cs (.slice x.A x.n x.c) (.slice y.A y.n y.c) (.slice z.A z.n z.c) HZ G ZZ) : Sk W (w.heap.size + 3) W.heap.size x y z HZ G ZZ := by
 have o1 := m.lo
 have o2 := m.hi
 have o3 := m.n
 have hH := m.H.1
 have hG := m.G.1
 exact ⟨Kd.R_mono m.H (fun k hk => by omega),Kd.R_mono (Kd.R_bound m.G) (fun k hk => ⟨hk.2.2.1,fun e => by have := hH k e.symm;omega⟩),Kd.S_mono m.Z (fun k hk => ⟨by omega,hk.2.2.2,fun e => by have := hG k e.symm;omega⟩)⟩
theorem app1_step {ops : Array Oper} {o : Oper} {a : Act} (W X : World) {K : Act → World → Prop} {Q : Exit → Act → World → Prop} {base : Nat} {ok : Nat → Prop} {p : Int} (hX : X = W.alloc (.cells #[vi p] 3)) (hg : o.guard = none) (s x : Operand) (hop : o.op = Op.call { callee := Callee.builtin Builtin.append,args := #[s,x],argTypes := #[24,24] })
  (v : Value) (xs : List Int) (p' : Int) (hp : p' = p) (hs : a.eval s = v) (hx : a.eval x = .slice (some ⟨W.heap.size,0,none⟩) 1 1) (HO : Kd.R (Kd.int .i64) 3 W base ok v xs) (hfresh : ∀ k,W.heap.size ≤ k → ok k) (hbase : base ≤ W.heap.size) (hl : (xs.length + 1) * 8 ≤ 140737488355328)
  (hK : ∀ v1 w1,Kd.R (Kd.int .i64) 3 w1 base ok v1 (xs ++ [p]) → Below base W w1 → W.grownBy w1 v.ownBlock → K (a.put o.dst v1) w1) : if Region.wanted o (yielded ops a.tmps) = true then Oper.wp Try.prog o a X K Q else K (a.put o.dst undef) X := by
 subst hX
 exact Kd.R_append_step (Kd.int .i64) (w0 := W) base (by simp [Region.wanted,hg]) s x 24 3 (vi 0) 8 hop Try.underlying24 info3 rfl (by decide) (by omega) v xs p [vi p] ok (fun _ => False) hs hx rfl (fun _ h => h.elim) hfresh HO (Below.refl _ _) hbase hl (fun v1 w1 h1 h2 h3 _ => hK v1 w1 h1 h2 h3)
theorem L3I.set {w W : World} {AA BB cs cs' : Array Value} {g n0 : Nat} {vh vr vz : Value} {HZ G : List Int} {ZZ : List (List Int)} (m : L3I w W AA BB g n0 cs vh vr vz HZ G ZZ) (i : Nat) (v : Value) (he : cs.setIfInBounds i v = cs') : L3I w (W.setCell ⟨g,i,none⟩ v) AA BB g n0 cs' vh vr vz HZ G ZZ := by
 have k : Kp W (W.setCell ⟨g,i,none⟩ v) g (g + 1) := Kp.set ⟨Nat.le_refl _,Nat.lt_succ_self _⟩ v
 have o1 := m.lo
 have o2 := m.hi
 have o3 := m.n
 have e := k.kept.1
 exact ⟨m.F.kp k (by omega),blk_put m.X i v he,Kd.R_move m.H (fun i hi => k.kept.2 i (by omega) (fun hs => hi.1 (by omega))),Kd.S_move m.Z (fun i hi => k.kept.2 i (by omega) (fun hs => hi.1 (by omega))),
  Kd.R_mono (Kd.R_move (Kd.R_bound m.G) (fun i hi => k.kept.2 i hi.2.2.1 (fun hs => by omega))) (fun _ hk => hk.1),o1,o2,by omega⟩
theorem spec_l3Merge.walk (k : Nat) (c s lo hi c' s' lo' hi' : Int) {A4 A5 A6 B4 B5 B6 : Option Addr} {c4 c5 c6 d4 d5 d6 : Nat} {h r h' r' : List Int} {R R' : List (List Int)} (w : World) (u : Rd w ⟨A4,h.length,c4⟩ ⟨A5,r.length,c5⟩ ⟨A6,R.length,c6⟩ h r R) (u' : Rd w ⟨B4,h'.length,d4⟩ ⟨B5,r'.length,d5⟩ ⟨B6,R'.length,d6⟩ h' r' R')
  (L : Aside0 (h.length = 8 ∧ r.length = 8 ∧ R.length = 2 ∧ h'.length = 8 ∧ r'.length = 8 ∧ R'.length = 2)) (CA CS LM HM : Int) (a1 : Aside0 (spec_Add.f c c' = some CA)) (a2 : Aside0 (spec_Add.f s s' = some CS)) (a3 : Aside0 (spec_l1Min.f lo lo' = some LM)) (a4 : Aside0 (spec_l1Max.f hi hi' = some HM))
  (HZ Z0 Z1 : List Int) (a5 : Aside0 (spec_l3Sum.f k h h' = some HZ)) (a6 : Aside0 (spec_l3Sum.f k (R.getD 0 []) (R'.getD 0 []) = some Z0)) (a7 : Aside0 (spec_l3Sum.f k (R.getD 1 []) (R'.getD 1 []) = some Z1)) (m1 m2 : Int) (hT : Aside0 (((c == 0) = true ∧ m1 = lo') ∨ ((c == 0) = false ∧ m1 = LM))) (hU : Aside0 (((c' == 0) = true ∧ m2 = lo) ∨ ((c' == 0) = false ∧ m2 = m1)))
  (RZ : List Int) (a8 : Aside0 (RZ.length = 8 ∧ ∀ i,i < 8 → spec_l1Max.f (r.getD i 0) (r'.getD i 0) = some (RZ.getD i 0))) (lz : HZ.length = 8 ∧ Z0.length = 4 ∧ Z1.length = 4) :
  Calls Try.prog 94 #[.agg #[vi c,vi s,vi lo,vi hi,.slice A4 h.length c4,.slice A5 r.length c5,.slice A6 R.length c6],.agg #[vi c',vi s',vi lo',vi hi',.slice B4 h'.length d4,.slice B5 r'.length d5,.slice B6 R'.length d6]] w (fun e w' => ∃ (x y z : Sl) (a b : Nat),e = .returned (.agg #[vi CA,vi CS,vi m2,vi HM,.slice x.A x.n x.c,.slice y.A y.n y.c,.slice z.A z.n z.c]) ∧ Sk w' a b x y z HZ RZ [Z0,Z1] ∧ Made w w' a b ∧ Below w.heap.size w w') := by
 have U := mkA u
 have U' := mkA u'
 clear u u'
 obtain ⟨ra,X0,gu,X1,gJ,gv,bO,gK,bP,bQ,gL,gM⟩ := rows2 (c := 0) U.out.C6 L.out.2.2.1
 obtain ⟨rb,Y0,gx,Y1,gN,gy,bR,gO,bS,bT,gP,gQ⟩ := rows2 (c := 0) U'.out.C6 L.out.2.2.2.2.2
 have bO : w.cell? ra = some (.slice X0 (R.getD 0 []).length gu) := bO
 have bR : w.cell? rb = some (.slice Y0 (R'.getD 0 []).length gx) := bR
 have gv : A6 = some ra := gv
 have gy : B6 = some rb := gy
 subst gv
 subst gy
 obtain ⟨AA,hAA⟩ : ∃ a : Array Value,a = #[vi c,vi s,vi lo,vi hi,.slice A4 h.length c4,.slice A5 r.length c5,.slice (some ra) R.length c6] := ⟨_,rfl⟩
 obtain ⟨BB,hBB⟩ : ∃ a : Array Value,a = #[vi c',vi s',vi lo',vi hi',.slice B4 h'.length d4,.slice B5 r'.length d5,.slice (some rb) R'.length d6] := ⟨_,rfl⟩
 have F0 := mkA (show L3F w (((w.alloc (.cells #[vi c,vi s,vi lo,vi hi,.slice A4 h.length c4,.slice A5 r.length c5,.slice (some ra) R.length c6] 27)).alloc (.cells #[vi c',vi s',vi lo',vi hi',.slice B4 h'.length d4,.slice B5 r'.length d5,.slice (some rb) R'.length d6] 27)).alloc (.cells #[vi 0,vi 0,vi 0,vi 0,.slice none 0 0,.slice none 0 0,.slice none 0 0] 27)) AA BB from by subst hAA hBB;exact ⟨(Bx.new w 27 #[vi c,vi s,vi lo,vi hi,.slice A4 h.length c4,.slice A5 r.length c5,.slice (some ra) R.length c6]).below (below_alloc (below_alloc (Below.refl _ _) _) _),((show (w.alloc (.cells #[vi c,vi s,vi lo,vi hi,.slice A4 h.length c4,.slice A5 r.length c5,.slice (some ra) R.length c6] 27)).heap.size = w.heap.size + 1 by simp) ▸ Bx.new (w.alloc (.cells #[vi c,vi s,vi lo,vi hi,.slice A4 h.length c4,.slice A5 r.length c5,.slice (some ra) R.length c6] 27)) 27 #[vi c',vi s',vi lo',vi hi',.slice B4 h'.length d4,.slice B5 r'.length d5,.slice (some rb) R'.length d6] : Bx _ (w.heap.size + 1) _ _).below (below_alloc (Below.refl _ _) _),((show ((w.alloc (.cells #[vi c,vi s,vi lo,vi hi,.slice A4 h.length c4,.slice A5 r.length c5,.slice (some ra) R.length c6] 27)).alloc (.cells #[vi c',vi s',vi lo',vi hi',.slice B4 h'.length d4,.slice B5 r'.length d5,.slice (some rb) R'.length d6] 27)).heap.size = w.heap.size + 2 by simp) ▸ Bx.new ((w.alloc (.cells #[vi c,vi s,vi lo,vi hi,.slice A4 h.length c4,.slice A5 r.length c5,.slice (some ra) R.length c6] 27)).alloc (.cells #[vi c',vi s',vi lo',vi hi',.slice B4 h'.length d4,.slice B5 r'.length d5,.slice (some rb) R'.length d6] 27)) 27 #[vi 0,vi 0,vi 0,vi 0,.slice none 0 0,.slice none 0 0,.slice none 0 0] : Bx _ (w.heap.size + 2) _ _),below_alloc (below_alloc (below_alloc (Below.refl _ _) _) _) _⟩)
 have LS := mkA (show ∀ W,L3F w W AA BB → (fun w' => w'.cell? ⟨w.heap.size,0,none⟩ = some (vi c) ∧ w'.cell? ⟨w.heap.size,1,none⟩ = some (vi s) ∧ w'.cell? ⟨w.heap.size,2,none⟩ = some (vi lo) ∧ w'.cell? ⟨w.heap.size,3,none⟩ = some (vi hi) ∧ w'.cell? ⟨w.heap.size,4,none⟩ = some (.slice A4 h.length c4) ∧ w'.cell? ⟨w.heap.size,6,none⟩ = some (.slice (some ra) R.length c6) ∧ w'.cell? ⟨w.heap.size + 1,0,none⟩ = some (vi c') ∧ w'.cell? ⟨w.heap.size + 1,1,none⟩ = some (vi s') ∧ w'.cell? ⟨w.heap.size + 1,2,none⟩ = some (vi lo') ∧ w'.cell? ⟨w.heap.size + 1,3,none⟩ = some (vi hi') ∧ w'.cell? ⟨w.heap.size + 1,4,none⟩ = some (.slice B4 h'.length d4) ∧ w'.cell? ⟨w.heap.size + 1,6,none⟩ = some (.slice (some rb) R'.length d6) ∧ w'.cell? (ra) = some (.slice X0 (R.getD 0 []).length gu) ∧ w'.cell? (⟨ra.block,ra.off + 1,none⟩) = some (.slice X1 (R.getD 1 []).length gJ) ∧ w'.cell? (rb) = some (.slice Y0 (R'.getD 0 []).length gx) ∧ w'.cell? (⟨rb.block,rb.off + 1,none⟩) = some (.slice Y1 (R'.getD 1 []).length gN)) W from fun W F => by subst hAA hBB;exact ⟨F.a.cells.1,F.a.cells.2.1,F.a.cells.2.2.1,F.a.cells.2.2.2.1,F.a.cells.2.2.2.2.1,F.a.cells.2.2.2.2.2.2,F.b.cells.1,F.b.cells.2.1,F.b.cells.2.2.1,F.b.cells.2.2.2.1,F.b.cells.2.2.2.2.1,F.b.cells.2.2.2.2.2.2,pw_cell_below F.l bO,pw_cell_below F.l gK,pw_cell_below F.l bR,pw_cell_below F.l gO⟩)
 have HAA := mkA hAA
 have HBB := mkA hBB
 clear hAA hBB
 have RC := mkA (And.intro bP (And.intro bQ (And.intro bS (And.intro bT (And.intro gL (And.intro gM (And.intro gP gQ)))))))
 clear bO gK bR gO bP bQ bS bT gL gM gP gQ
 have p0 : (0 : Int) < (R.length : Int) := by have := L.out;omega
 have ij : 0 < R.length := by have := L.out;omega
 have p1 : (1 : Int) < (R.length : Int) := by have := L.out;omega
 have ik : 1 < R.length := by have := L.out;omega
 have q0 : (0 : Int) < (R'.length : Int) := by have := L.out;omega
 have il : 0 < R'.length := by have := L.out;omega
 have q1 : (1 : Int) < (R'.length : Int) := by have := L.out;omega
 have im : 1 < R'.length := by have := L.out;omega
 go_enter Try.func94,Try.ntmps94
 go_upto_region 1 with (fail)
 go_cut [5] (fun v5 wc => ∃ gB g5 q5 gl : Nat,v5 = .pointer (some ⟨gB,0,none⟩) ∧ Aside0 (L3I w wc AA BB gB wc.heap.size #[vi CA,vi CS,vi LM,vi HM,.slice (some ⟨g5,0,none⟩) HZ.length q5,.slice none 0 0,.slice (some ⟨gl,0,none⟩) 2 2] (.slice (some ⟨g5,0,none⟩) HZ.length q5) (.slice none 0 0) (.slice (some ⟨gl,0,none⟩) 2 2) HZ [] [Z0,Z1]))
 case first =>
  have K5 := mkA (fun W (F : L3F w W AA BB) => spec_l3Sum.calls k _ _ h _ _ h' HZ W (U.out.below F.l).C4 (by have := U.out.l4;exact this) (U'.out.below F.l).C4 (by have := U'.out.l4;exact this) a5.out)
  have K6 := mkA (fun W (F : L3F w W AA BB) => spec_l3Sum.calls k _ _ (R.getD 0 []) _ _ (R'.getD 0 []) Z0 W (Kd.C_below RC.out.2.2.2.2.1 F.l) RC.out.1 (Kd.C_below RC.out.2.2.2.2.2.2.1 F.l) RC.out.2.2.1 a6.out)
  have K7 := mkA (fun W (F : L3F w W AA BB) => spec_l3Sum.calls k _ _ (R.getD 1 []) _ _ (R'.getD 1 []) Z1 W (Kd.C_below RC.out.2.2.2.2.2.1 F.l) RC.out.2.1 (Kd.C_below RC.out.2.2.2.2.2.2.2 F.l) RC.out.2.2.2.1 a7.out)
  clear U U' RC bO bR
  generalize (R.getD 0 []).length = n0 at LS K6 K7
  generalize (R.getD 1 []).length = n1 at LS K6 K7
  generalize (R'.getD 0 []).length = o0 at LS K6 K7
  generalize (R'.getD 1 []).length = o1 at LS K6 K7
  have gz : w.heap.size + 3 ≤ ((((w.alloc (.cells #[vi c,vi s,vi lo,vi hi,.slice A4 h.length c4,.slice A5 r.length c5,.slice (some ra) R.length c6] 27)).alloc (.cells #[vi c',vi s',vi lo',vi hi',.slice B4 h'.length d4,.slice B5 r'.length d5,.slice (some rb) R'.length d6] 27)).alloc (.cells #[vi 0,vi 0,vi 0,vi 0,.slice none 0 0,.slice none 0 0,.slice none 0 0] 27))).heap.size := by simp
  generalize (((w.alloc (.cells #[vi c,vi s,vi lo,vi hi,.slice A4 h.length c4,.slice A5 r.length c5,.slice (some ra) R.length c6] 27)).alloc (.cells #[vi c',vi s',vi lo',vi hi',.slice B4 h'.length d4,.slice B5 r'.length d5,.slice (some rb) R'.length d6] 27)).alloc (.cells #[vi 0,vi 0,vi 0,vi 0,.slice none 0 0,.slice none 0 0,.slice none 0 0] 27)) = W0 at *
  have F4 := mkA (F0.out.below (below_drew (Below.refl _ _)))
  have z4 : w.heap.size + 3 ≤ W0.drew.heap.size := gz
  have s4 := z4
  have ZL := mkA lz
  clear lz
  go_region_held3 (fun w' => w'.cell? ⟨w.heap.size,0,none⟩ = some (vi c) ∧ w'.cell? ⟨w.heap.size,1,none⟩ = some (vi s) ∧ w'.cell? ⟨w.heap.size,2,none⟩ = some (vi lo) ∧ w'.cell? ⟨w.heap.size,3,none⟩ = some (vi hi) ∧ w'.cell? ⟨w.heap.size,4,none⟩ = some (.slice A4 h.length c4) ∧ w'.cell? ⟨w.heap.size,6,none⟩ = some (.slice (some ra) R.length c6) ∧ w'.cell? ⟨w.heap.size + 1,0,none⟩ = some (vi c') ∧ w'.cell? ⟨w.heap.size + 1,1,none⟩ = some (vi s') ∧ w'.cell? ⟨w.heap.size + 1,2,none⟩ = some (vi lo') ∧ w'.cell? ⟨w.heap.size + 1,3,none⟩ = some (vi hi') ∧ w'.cell? ⟨w.heap.size + 1,4,none⟩ = some (.slice B4 h'.length d4) ∧ w'.cell? ⟨w.heap.size + 1,6,none⟩ = some (.slice (some rb) R'.length d6) ∧ w'.cell? (ra) = some (.slice X0 n0 gu) ∧ w'.cell? (⟨ra.block,ra.off + 1,none⟩) = some (.slice X1 n1 gJ) ∧ w'.cell? (rb) = some (.slice Y0 o0 gx) ∧ w'.cell? (⟨rb.block,rb.off + 1,none⟩) = some (.slice Y1 o1 gN)) (first | with_reducible exact FL.out _ _ _ _ _ _ _ _ | with_reducible exact LS.out _ (F0.out.below (below_drew (below_alloc (Below.refl _ W0) (.cells #[vi 0,vi 0,vi 0,vi 0,.slice none 0 0,.slice none 0 0,.slice none 0 0] 27)))) | with_reducible exact LS.out _ F4.out | with_reducible exact LS.out _ (F4.out.below (below_alloc (Below.refl _ _) (.cells #[vi 0,vi 0,vi 0,vi 0,.slice none 0 0,.slice none 0 0,.slice none 0 0] 27))) | with_reducible exact LS.out _ F5.out | with_reducible exact LS.out _ (F5.out.below (below_alloc (Below.refl _ _) (.cells #[vi 0,vi 0,vi 0,vi 0,.slice none 0 0,.slice none 0 0,.slice none 0 0] 27))) | with_reducible exact LS.out _ F6.out | with_reducible exact LS.out _ (F6.out.below (below_alloc (Below.refl _ _) (.cells #[vi 0,vi 0,vi 0,vi 0,.slice none 0 0,.slice none 0 0,.slice none 0 0] 27))) | with_reducible exact LS.out _ F7.out | with_reducible exact LS.out _ (F7.out.below (below_alloc (Below.refl _ _) (.cells #[vi 0,vi 0,vi 0,vi 0,.slice none 0 0,.slice none 0 0,.slice none 0 0] 27))) | with_reducible exact LS.out _ (F7.out.below (below_alloc (Below.refl _ _) _)) | with_reducible exact LS.out _ (F7.out.below (below_alloc (below_alloc (Below.refl _ _) _) _))) (first | (go_at_call 107;(with_reducible refine (spec_Add.still c c' CA _ a1.out).mono ?_);rintro e wq ⟨rfl,rfl⟩) | (go_at_call 107;(with_reducible refine (spec_Add.still s s' CS _ a2.out).mono ?_);rintro e wq ⟨rfl,rfl⟩) | (go_at_call 108;(with_reducible refine (spec_l1Min.still lo lo' LM _ a3.out).mono ?_);rintro e wq ⟨rfl,rfl⟩) | (go_at_call 109;(with_reducible refine (spec_l1Max.still hi hi' HM _ a4.out).mono ?_);rintro e wq ⟨rfl,rfl⟩) | (go_at_call 110;(with_reducible refine (K5.out _ F4.out).mono ?_);rintro e w5 ⟨v5,rfl,hr,hb⟩;obtain ⟨g5,q5,rfl,bI,gR,_⟩ := Kd.R_form hr (by have := ZL.out;omega);have bJ := hb.size;(first | (replace Y := mkA (Y.out.below hb)) | skip);have F5 := mkA (F4.out.below hb);have J5 := mkA (row_to hr (Below.refl _ _) s4);have s5 := Nat.le_trans s4 hb.size;clear F4 hr hb) | (go_at_call 110;(with_reducible refine (K5.out _ (F4.out.below (below_alloc (Below.refl _ _) (.cells #[vi 0,vi 0,vi 0,vi 0,.slice none 0 0,.slice none 0 0,.slice none 0 0] 27)))).mono ?_);rintro e w5 ⟨v5,rfl,hr,hb⟩;obtain ⟨g5,q5,rfl,bI,gR,_⟩ := Kd.R_form hr (by have := ZL.out;omega);have bJ := hb.size;have Y := mkA (show Bx w5 W0.heap.size 27 #[vi 0,vi 0,vi 0,vi 0,.slice none 0 0,.slice none 0 0,.slice none 0 0] from (Bx.new W0.drew 27 #[vi 0,vi 0,vi 0,vi 0,.slice none 0 0,.slice none 0 0,.slice none 0 0]).below hb);have y0 : w.heap.size + 2 < W0.drew.heap.size := (by omega);have hb := below_step (below_alloc (Below.refl _ _) (.cells #[vi 0,vi 0,vi 0,vi 0,.slice none 0 0,.slice none 0 0,.slice none 0 0] 27)) hb;replace bI := sz_alloc1 bI;replace bJ := sz_alloc1 bJ;have F5 := mkA (F4.out.below hb);have J5 := mkA (row_to hr (Below.refl _ _) (Nat.le_trans s4 (sz_alloc _ _)));have s5 := Nat.le_trans s4 hb.size;clear F4 hr hb) | (go_at_call 110;(with_reducible refine (K5.out _ (F0.out.below (below_drew (below_alloc (Below.refl _ W0) (.cells #[vi 0,vi 0,vi 0,vi 0,.slice none 0 0,.slice none 0 0,.slice none 0 0] 27))))).mono ?_);rintro e w5 ⟨v5,rfl,hr,hb⟩;obtain ⟨g5,q5,rfl,bI,gR,_⟩ := Kd.R_form hr (by have := ZL.out;omega);have bJ := hb.size;have Y := mkA (show Bx w5 W0.heap.size 27 #[vi 0,vi 0,vi 0,vi 0,.slice none 0 0,.slice none 0 0,.slice none 0 0] from ((Bx.new W0 27 #[vi 0,vi 0,vi 0,vi 0,.slice none 0 0,.slice none 0 0,.slice none 0 0]).below (below_drew (Below.refl _ _))).below hb);have y0 : w.heap.size + 2 < W0.heap.size := (by omega);have J5 := mkA (row_to hr (Below.refl _ _) (Nat.le_trans gz (sz_alloc W0 (.cells #[vi 0,vi 0,vi 0,vi 0,.slice none 0 0,.slice none 0 0,.slice none 0 0] 27))));have hb := below_step (below_drew (below_alloc (Below.refl _ W0) (.cells #[vi 0,vi 0,vi 0,vi 0,.slice none 0 0,.slice none 0 0,.slice none 0 0] 27))) hb;replace bI := sz_alloc1 (w := W0) (o := (.cells #[vi 0,vi 0,vi 0,vi 0,.slice none 0 0,.slice none 0 0,.slice none 0 0] 27)) bI;replace bJ := sz_alloc1 (w := W0) (o := (.cells #[vi 0,vi 0,vi 0,vi 0,.slice none 0 0,.slice none 0 0,.slice none 0 0] 27)) bJ;have F5 := mkA (F0.out.below hb);have s5 := Nat.le_trans gz hb.size;clear F4 hr hb) | (go_at_call 110;(with_reducible refine (K6.out _ F5.out).mono ?_);rintro e w6 ⟨v6,rfl,hr,hb⟩;obtain ⟨g6,q6,rfl,gC,hV,_⟩ := Kd.R_form hr (by have := ZL.out;omega);have gD := hb.size;(first | (replace Y := mkA (Y.out.below hb)) | skip);have F6 := mkA (F5.out.below hb);have J6 := mkA (row_to hr (Below.refl _ _) s5);have s6 := Nat.le_trans s5 hb.size;replace J5 := mkA (Kd.R_below J5.out hb);clear F5 hr hb) | (go_at_call 110;(with_reducible refine (K6.out _ (F5.out.below (below_alloc (Below.refl _ _) (.cells #[vi 0,vi 0,vi 0,vi 0,.slice none 0 0,.slice none 0 0,.slice none 0 0] 27)))).mono ?_);rintro e w6 ⟨v6,rfl,hr,hb⟩;obtain ⟨g6,q6,rfl,gC,hV,_⟩ := Kd.R_form hr (by have := ZL.out;omega);have gD := hb.size;have Y := mkA (show Bx w6 w5.heap.size 27 #[vi 0,vi 0,vi 0,vi 0,.slice none 0 0,.slice none 0 0,.slice none 0 0] from (Bx.new w5 27 #[vi 0,vi 0,vi 0,vi 0,.slice none 0 0,.slice none 0 0,.slice none 0 0]).below hb);have y0 : w.heap.size + 2 < w5.heap.size := (by omega);have hb := below_step (below_alloc (Below.refl _ _) (.cells #[vi 0,vi 0,vi 0,vi 0,.slice none 0 0,.slice none 0 0,.slice none 0 0] 27)) hb;replace gC := sz_alloc1 gC;replace gD := sz_alloc1 gD;have F6 := mkA (F5.out.below hb);have J6 := mkA (row_to hr (Below.refl _ _) (Nat.le_trans s5 (sz_alloc _ _)));have s6 := Nat.le_trans s5 hb.size;replace J5 := mkA (Kd.R_below J5.out hb);clear F5 hr hb) | (go_at_call 110;(with_reducible refine (K7.out _ F6.out).mono ?_);rintro e w7 ⟨v7,rfl,hr,hb⟩;obtain ⟨g7,q7,rfl,gE,hW,_⟩ := Kd.R_form hr (by have := ZL.out;omega);have gF := hb.size;(first | (replace Y := mkA (Y.out.below hb)) | skip);have F7 := mkA (F6.out.below hb);have J7 := mkA (row_to hr (Below.refl _ _) s6);have s7 := Nat.le_trans s6 hb.size;replace J5 := mkA (Kd.R_below J5.out hb);replace J6 := mkA (Kd.R_below J6.out hb);(first | (obtain ⟨c0,c1,c2,c3,hY,b1,cb⟩ := Y.out.cellsA;have cf := fun (o : Obj) i => Bx.fz (Y.out.below (below_alloc (Below.refl _ _) o)) i;have FL := mkA (fun (o : Obj) u0 u1 u2 u3 u4 u5 u6 => LS.out _ (L3F.kp (F7.out.below (below_alloc (Below.refl _ _) o)) ((Y.out.below (below_alloc (Below.refl _ _) o)).fill u0 u1 u2 u3 u4 u5 u6).2 (by omega)))) | skip);clear F6 hr hb) | (go_at_call 110;(with_reducible refine (K7.out _ (F6.out.below (below_alloc (Below.refl _ _) (.cells #[vi 0,vi 0,vi 0,vi 0,.slice none 0 0,.slice none 0 0,.slice none 0 0] 27)))).mono ?_);rintro e w7 ⟨v7,rfl,hr,hb⟩;obtain ⟨g7,q7,rfl,gE,hW,_⟩ := Kd.R_form hr (by have := ZL.out;omega);have gF := hb.size;have Y := mkA (show Bx w7 w6.heap.size 27 #[vi 0,vi 0,vi 0,vi 0,.slice none 0 0,.slice none 0 0,.slice none 0 0] from (Bx.new w6 27 #[vi 0,vi 0,vi 0,vi 0,.slice none 0 0,.slice none 0 0,.slice none 0 0]).below hb);have y0 : w.heap.size + 2 < w6.heap.size := (by omega);have hb := below_step (below_alloc (Below.refl _ _) (.cells #[vi 0,vi 0,vi 0,vi 0,.slice none 0 0,.slice none 0 0,.slice none 0 0] 27)) hb;replace gE := sz_alloc1 gE;replace gF := sz_alloc1 gF;have F7 := mkA (F6.out.below hb);have J7 := mkA (row_to hr (Below.refl _ _) (Nat.le_trans s6 (sz_alloc _ _)));have s7 := Nat.le_trans s6 hb.size;replace J5 := mkA (Kd.R_below J5.out hb);replace J6 := mkA (Kd.R_below J6.out hb);(first | (obtain ⟨c0,c1,c2,c3,hY,b1,cb⟩ := Y.out.cellsA;have cf := fun (o : Obj) i => Bx.fz (Y.out.below (below_alloc (Below.refl _ _) o)) i;have FL := mkA (fun (o : Obj) u0 u1 u2 u3 u4 u5 u6 => LS.out _ (L3F.kp (F7.out.below (below_alloc (Below.refl _ _) o)) ((Y.out.below (below_alloc (Below.refl _ _) o)).fill u0 u1 u2 u3 u4 u5 u6).2 (by omega)))) | skip);clear F6 hr hb))
  all_goals
   have z9 := F7.out.l.size
   refine Met.intro ?_
   go_step
   go_meet
   case rel =>
    first
     | ((with_reducible refine ⟨_,_,_,_,rfl,⟨l3_finC F7.out Y.out J5.out J6.out J7.out ?_⟩⟩);omega)
     | ((with_reducible refine ⟨_,_,_,_,rfl,⟨l3_finA F7.out J5.out J6.out J7.out ?_⟩⟩);omega)
     | ((with_reducible refine ⟨_,_,_,_,rfl,⟨l3_finB F7.out J5.out J6.out J7.out ?_⟩⟩);omega)
 case rest =>
  obtain ⟨gB,g5,q5,gl,rfl,M⟩ := hcut
  clear F0 LS RC
  have iq := mkA lz
  clear lz
  generalize hZ : wc.heap.size = n0 at *
  clear hZ
  have e1 : w.heap.size ≠ gB := by have := M.out.lo;omega
  have e2 : w.heap.size + 1 ≠ gB := by have := M.out.lo;omega
  have e3 : gB ≠ w.heap.size := by have := M.out.lo;omega
  have e4 : gB ≠ w.heap.size + 1 := by have := M.out.lo;omega
  have ba := M.out.F.a
  have bb := M.out.F.b
  rw [HAA.out] at ba
  rw [HBB.out] at bb
  obtain ⟨x0,x1,x2,x3,x4,x5,x6⟩ := ba.cells
  obtain ⟨y0,y1,y2,y3,y4,y5,y6⟩ := bb.cells
  clear ba bb
  obtain ⟨z0,z1,z2,z3,b4,z5,z6⟩ := M.out.X.cells
  have fz := M.out.X.fz
  go_upto_if 54 with (fail)
  clear x0 x1 x2 x3 x4 x5 x6 y0 y1 y2 y3 y4 y5 y6 z0 z1 z2 z3 b4 z5 z6 fz
  go_cut [] (fun wd => Aside0 (L3I w wd AA BB gB n0 #[vi CA,vi CS,vi m1,vi HM,.slice (some ⟨g5,0,none⟩) HZ.length q5,.slice none 0 0,.slice (some ⟨gl,0,none⟩) 2 2] (.slice (some ⟨g5,0,none⟩) HZ.length q5) (.slice none 0 0) (.slice (some ⟨gl,0,none⟩) 2 2) HZ [] [Z0,Z1]))
  case first =>
   obtain ⟨q,hm⟩ | ⟨q,hm⟩ := hT.out
   all_goals
    have gG := mkA hm;clear hm;have ba := M.out.F.a;have bb := M.out.F.b;rw [HAA.out] at ba;rw [HBB.out] at bb;obtain ⟨x0,x1,x2,x3,x4,x5,x6⟩ := ba.cells;obtain ⟨y0,y1,y2,y3,y4,y5,y6⟩ := bb.cells;clear ba bb;obtain ⟨z0,z1,z2,z3,b4,z5,z6⟩ := M.out.X.cells;have fz := M.out.X.fz
    go_wp2_with fail
    go_meet
    case rel =>
     rw [gG.out]
     first
      | exact ⟨M.out.set 2 (vi lo') rfl⟩
      | exact M
  case rest =>
   clear M
   have M := hcut
   clear hcut
   have ba := M.out.F.a
   have bb := M.out.F.b
   rw [HAA.out] at ba
   rw [HBB.out] at bb
   obtain ⟨x0,x1,x2,x3,x4,x5,x6⟩ := ba.cells
   obtain ⟨y0,y1,y2,y3,y4,y5,y6⟩ := bb.cells
   clear ba bb
   obtain ⟨z0,z1,z2,z3,b4,z5,z6⟩ := M.out.X.cells
   have fz := M.out.X.fz
   go_upto_if 60 with (fail)
   clear x0 x1 x2 x3 x4 x5 x6 y0 y1 y2 y3 y4 y5 y6 z0 z1 z2 z3 b4 z5 z6 fz
   go_cut [] (fun wd => Aside0 (L3I w wd AA BB gB n0 #[vi CA,vi CS,vi m2,vi HM,.slice (some ⟨g5,0,none⟩) HZ.length q5,.slice none 0 0,.slice (some ⟨gl,0,none⟩) 2 2] (.slice (some ⟨g5,0,none⟩) HZ.length q5) (.slice none 0 0) (.slice (some ⟨gl,0,none⟩) 2 2) HZ [] [Z0,Z1]))
   case first =>
    obtain ⟨q,hm⟩ | ⟨q,hm⟩ := hU.out
    all_goals
     have gG := mkA hm;clear hm;have ba := M.out.F.a;have bb := M.out.F.b;rw [HAA.out] at ba;rw [HBB.out] at bb;obtain ⟨x0,x1,x2,x3,x4,x5,x6⟩ := ba.cells;obtain ⟨y0,y1,y2,y3,y4,y5,y6⟩ := bb.cells;clear ba bb;obtain ⟨z0,z1,z2,z3,b4,z5,z6⟩ := M.out.X.cells;have fz := M.out.X.fz
     go_wp2_with fail
     go_meet
     case rel =>
      rw [gG.out]
      first
       | exact ⟨M.out.set 2 (vi lo) rfl⟩
       | exact M
   case rest =>
    clear M;have M := hcut;clear hcut;have RL := mkA (And.intro M.out.lo M.out.hi);have U0 := mkA U.out
    go_wp2
    go_loopg [6] 9 (fun gg s6 wr => ∃ (i : Nat) (b5 : Option Addr) (b1 : Nat),i ≤ 8 ∧ 8 - i + 1 ≤ gg ∧ s6 = vi (i : Int) ∧ Aside0 (L3I w wr AA BB gB n0 #[vi CA,vi CS,vi m2,vi HM,.slice (some ⟨g5,0,none⟩) HZ.length q5,.slice b5 i b1,.slice (some ⟨gl,0,none⟩) 2 2] (.slice (some ⟨g5,0,none⟩) HZ.length q5) (.slice b5 i b1) (.slice (some ⟨gl,0,none⟩) 2 2) HZ (RZ.take i) [Z0,Z1]))
    case atStart => exact ⟨0,none,0,by omega,by omega,rfl,M⟩
    case round =>
     clear M;obtain ⟨i,b5,b1,hi,hgk,rfl,M⟩ := hrel
     by_cases hlt : i < 8
     ·have hd : decide ((i : Int) < 8) = true := decide_eq_true (by omega)
      have h0 : (0 : Int) ≤ (i : Int) := by omega
      have bK : (i : Int) < (r.length : Int) := by have := L.out;omega
      have ir : (i : Int) < (r'.length : Int) := by have := L.out;omega
      obtain ⟨ad,eA,gw⟩ := ints_at U.out.C5 i (by have := L.out;omega);obtain ⟨ad',eA',gw'⟩ := ints_at U'.out.C5 i (by have := L.out;omega);have eA : A5 = some ad := eA;have eA' : B5 = some ad' := eA';subst eA eA';have h8 := a8.out.2 i hlt;have T8 := mkA (show RZ.take i ++ [RZ.getD i 0] = RZ.take (i + 1) from by rw [List.take_succ_eq_append_getElem (by rw [a8.out.1];exact hlt),List.getD_eq_getElem?_getD,List.getElem?_eq_getElem (by rw [a8.out.1];exact hlt)];rfl);have gS := mkA (show (RZ.take (i + 1)).length = i + 1 from by rw [List.length_take,a8.out.1];omega);have TL := mkA (show (RZ.take i).length = i from by rw [List.length_take,a8.out.1];omega);generalize r.getD i 0 = v1 at gw h8;generalize r'.getD i 0 = v2 at gw' h8;generalize RZ.getD i 0 = v3 at T8 h8;have H8 := mkA h8;clear h8;have ba := M.out.F.a;have bb := M.out.F.b;rw [HAA.out] at ba;rw [HBB.out] at bb;obtain ⟨x0,x1,x2,x3,x4,x5,x6⟩ := ba.cells;obtain ⟨y0,y1,y2,y3,y4,y5,y6⟩ := bb.cells;clear ba bb;obtain ⟨z0,z1,z2,z3,b4,z5,z6⟩ := M.out.X.cells;have fz := M.out.X.fz;have kw := World.block_lt_of_cell? w _ gw;have kw' := World.block_lt_of_cell? w _ gw';have gA := (M.out.F.l.cell (p := ad.add i) kw).trans gw;have gA' := (M.out.F.l.cell (p := ad'.add i) kw').trans gw';have LS := mkA (show ∀ W' : World,(∀ k,k < n0 → k ≠ gB → W'.heap[k]? = wr.heap[k]?) → (fun w' : World => w'.cell? ⟨w.heap.size,5,none⟩ = some (.slice (some ad) r.length c5) ∧ w'.cell? ⟨w.heap.size + 1,5,none⟩ = some (.slice (some ad') r'.length d5) ∧ w'.cell? (ad.add i) = some (vi v1) ∧ w'.cell? (ad'.add i) = some (vi v2)) W' from fun W' h => ⟨cell_same x5 (h _ (by have := RL.out;show w.heap.size < n0;omega) (by have := RL.out;show w.heap.size ≠ gB;omega)),cell_same y5 (h _ (by have := RL.out;show w.heap.size + 1 < n0;omega) (by have := RL.out;show w.heap.size + 1 ≠ gB;omega)),cell_same gA (h _ (Nat.lt_trans kw (by have := RL.out;omega)) (Nat.ne_of_lt (Nat.lt_trans kw (by have := RL.out;omega)))),cell_same gA' (h _ (Nat.lt_trans kw' (by have := RL.out;omega)) (Nat.ne_of_lt (Nat.lt_trans kw' (by have := RL.out;omega))))⟩)
      have zo : ∀ o,(wr.drew.alloc o).cell? ⟨gB,5,none⟩ = some (.slice b5 i b1) := fun o => (M.out.drew.X.below (below_alloc (Below.refl _ _) o)).cells.2.2.2.2.2.1
      have iu : ∀ o,(wr.alloc o).cell? ⟨gB,5,none⟩ = some (.slice b5 i b1) := fun o => (M.out.X.below (below_alloc (Below.refl _ _) o)).cells.2.2.2.2.2.1
      have NN := mkA M.out.n;clear kw kw' gw gw' x0 x1 x2 x3 x4 x6 y0 y1 y2 y3 y4 y6 z0 z1 z2 z3 b4 z6 fz
      go_wp2_with fail
      have iv : l3ld = Op.load 24 (Operand.tmp 68) := rfl;rw [show Op.load 24 (Operand.tmp 68) = l3ld from rfl]
      go_region_held_law (fun w' : World => w'.cell? ⟨w.heap.size,5,none⟩ = some (.slice (some ad) r.length c5) ∧ w'.cell? ⟨w.heap.size + 1,5,none⟩ = some (.slice (some ad') r'.length d5) ∧ w'.cell? (ad.add i) = some (vi v1) ∧ w'.cell? (ad'.add i) = some (vi v2)) (first | exact KS.out _ | exact LS.out _ (fun _ _ _ => rfl) | exact LS.out _ (fun k hk _ => al_keep _ (Nat.lt_of_lt_of_le hk NN.out)) | exact LS.out _ K1.out | exact LS.out _ (fun k hk hn => (set_keep _ hn).trans (K1.out k hk hn)) | go_keep) (first | (refine app1_step wr.drew _ rfl rfl (.tmp 69) (.tmp 81) rfl (.slice b5 i b1) (RZ.take i) v3 rfl rfl rfl M.out.drew.G (fun k hk => Nat.le_trans NN.out hk) (by have := RL.out;have := NN.out;show w.heap.size + 3 ≤ wr.heap.size;omega) (by have := TL.out;omega) ?_;intro v4 w1 ho hb hg;rw [T8.out] at ho;obtain ⟨gT,cb,rfl⟩ := Kd.R_slice ho;rw [gS.out] at ho;rw [gS.out];have M1 := mkA (M.out.drew.grow hg hb ho);clear ho;have K1 := mkA (show ∀ k,k < n0 → k ≠ gB → w1.heap[k]? = wr.heap[k]? from M.out.drew.gkeep hg);clear hb hg;have KS := mkA (fun v : Value => LS.out (w1.setCell ⟨gB,5,none⟩ v) (fun k hk hn => (set_keep v hn).trans (K1.out k hk hn)));obtain ⟨_,_,_,_,_,t5,_⟩ := M1.out.X.cells;have ft := M1.out.X.fz) | (go_at_call 109;(with_reducible refine (spec_l1Max.still v1 v2 v3 _ H8.out).mono ?_);rintro e wq ⟨rfl,rfl⟩))
      all_goals
       go_wp2
       go_roundg (8 - (i + 1) + 1)
       case measure => omega
       case rel => exact ⟨i + 1,gT,cb,by omega,by omega,by go_num,⟨M1.out.set 5 (.slice gT (i + 1) cb) rfl⟩⟩
     ·have : i = 8 := by omega
      subst this
      have hd : decide (((8 : Nat) : Int) < 8) = false := by decide
      have gU : RZ.take 8 = RZ := List.take_of_length_le (by rw [a8.out.1];exact Nat.le_refl _);rw [gU] at M;clear gU
      have iw : w.heap.size + 2 ≠ gB := by have := RL.out;omega
      have ix : gB ≠ w.heap.size + 2 := by have := RL.out;omega
      obtain ⟨z0,z1,z2,z3,b4,z5,z6⟩ := M.out.X.cells;obtain ⟨o0,o1,o2,o3,o4,o5,o6⟩ := M.out.F.o.cells;have fo := M.out.F.o.fz
      go_wp2
      clear z0 z1 z2 z3 b4 z5 z6 o0 o1 o2 o3 o4 o5 o6 fo;have FB := mkA ((show Bx wr (w.heap.size + 1 + 1) 27 #[vi 0,vi 0,vi 0,vi 0,.slice none 0 0,.slice none 0 0,.slice none 0 0] from M.out.F.o).fill (vi CA) (vi CS) (vi m2) (vi HM) (.slice (some ⟨g5,0,none⟩) HZ.length q5) (.slice b5 8 b1) (.slice (some ⟨gl,0,none⟩) 2 2));refine bodyPost_ret (results_cell_row rfl _ _ (w.heap.size + 1 + 1) 27 #[vi CA,vi CS,vi m2,vi HM,.slice (some ⟨g5,0,none⟩) HZ.length q5,.slice b5 8 b1,.slice (some ⟨gl,0,none⟩) 2 2] (0,0) _ rfl FB.out.1 Try.underlying27 rfl (by kernel_rfl)) rfl ?_;have N8 := M.out.n;have RR := RL.out;exact ⟨⟨some ⟨g5,0,none⟩,HZ.length,q5⟩,⟨b5,8,b1⟩,⟨some ⟨gl,0,none⟩,2,2⟩,w.heap.size + 3,wr.heap.size,rfl,M.out.sk.kp FB.out.2 (.inl (by omega)),⟨by omega,by omega,FB.out.2.kept.1⟩,below_kp M.out.F.l FB.out.2 (by omega) M.out.F.l.size⟩

def spec_l3Merge.G (aj ai : List Int) (ak : List (List Int)) (aq an : List Int) (ar : List (List Int)) (HZ Z0 Z1 : List Int) : Prop := ((aj.length = 8 ∧ ai.length = 8 ∧ ak.length = 2 ∧ aq.length = 8 ∧ an.length = 8 ∧ ar.length = 2) ∧ (HZ.length = 8 ∧ Z0.length = 4 ∧ Z1.length = 4) ∧ (List.zipWith hi2 ai an).length = 8 ∧ ∀ i,i < 8 → spec_l1Max.f (ai.getD i 0) (an.getD i 0) = some ((List.zipWith hi2 ai an).getD i 0))
instance spec_l3Merge.gd (aj ai : List Int) (ak : List (List Int)) (aq an : List Int) (ar : List (List Int)) (HZ Z0 Z1 : List Int) : Decidable (spec_l3Merge.G aj ai ak aq an ar HZ Z0 Z1) := by unfold spec_l3Merge.G;infer_instance
def spec_l3Merge.lo (c lo c' lo' lm : Int) : Int := if c' = 0 then lo else if c = 0 then lo' else lm
def spec_l3Merge.f (k : Nat) (al : Int) (av : Int) (ao : Int) (aw : Int) (aj : List Int) (ai : List Int) (ak : List (List Int)) (ay : Int) (aF : Int) (ax : Int) (aG : Int) (aq : List Int) (an : List Int) (ar : List (List Int)) : Option (Int × Int × Int × Int × List Int × List Int × (List (List Int))) := (spec_Add.f al ay).bind fun CA => (spec_Add.f av aF).bind fun CS => (spec_l1Min.f ao ax).bind fun LM => (spec_l1Max.f aw aG).bind fun HM => (spec_l3Sum.f k aj aq).bind fun HZ => (spec_l3Sum.f k (ak.getD 0 []) (ar.getD 0 [])).bind fun Z0 => (spec_l3Sum.f k (ak.getD 1 []) (ar.getD 1 [])).bind fun Z1 => if spec_l3Merge.G aj ai ak aq an ar HZ Z0 Z1 then some (CA,CS,spec_l3Merge.lo al ao ay ax LM,HM,HZ,List.zipWith hi2 ai an,[Z0,Z1]) else none
theorem spec_l3Merge.calls (k : Nat) (al : Int) (av : Int) (ao : Int) (aw : Int) (az : Option Addr) (aA : Nat) (aj : List Int) (aB : Option Addr) (aC : Nat) (ai : List Int) (aD : Option Addr) (aE : Nat) (ak : List (List Int)) (ay : Int) (aF : Int) (ax : Int) (aG : Int) (aP : Option Addr) (aQ : Nat) (aq : List Int) (aR : Option Addr) (aS : Nat) (an : List Int) (aT : Option Addr) (aU : Nat) (ar : List (List Int)) (r1 : Int) (r2 : Int) (r3 : Int) (r4 : Int) (r5 : List Int) (r6 : List Int) (r7 : List (List Int)) (w : World) (bj : Kd.C (Kd.int .i64) w az aj.length aj) (bk : aj.length ≤ aA) (bm : Kd.C (Kd.int .i64) w aB ai.length ai) (bn : ai.length ≤ aC) (bo : Kd.C (Kd.slice 3 (Kd.int .i64)) w aD ak.length ak) (bp : ak.length ≤ aE) (bq : Kd.C (Kd.int .i64) w aP aq.length aq) (br : aq.length ≤ aQ) (bs : Kd.C (Kd.int .i64) w aR an.length an) (bu : an.length ≤ aS) (bw : Kd.C (Kd.slice 3 (Kd.int .i64)) w aT ar.length ar) (bz : ar.length ≤ aU) (h : spec_l3Merge.f k al av ao aw aj ai ak ay aF ax aG aq an ar = some (r1,r2,r3,r4,r5,r6,r7)) :
  Calls Try.prog 94 #[.agg #[vi al,vi av,vi ao,vi aw,.slice az aj.length aA,.slice aB ai.length aC,.slice aD ak.length aE],.agg #[vi ay,vi aF,vi ax,vi aG,.slice aP aq.length aQ,.slice aR an.length aS,.slice aT ar.length aU]] w fun e w' => ∃ cc cd gV : Value,e = .returned (.agg #[vi r1,vi r2,vi r3,vi r4,cc,cd,gV]) ∧ Kd.R (Kd.int .i64) 3 w' w.heap.size (fun k_ => some k_ ≠ (cd : Value).ownBlock) cc r5 ∧ Kd.R (Kd.int .i64) 3 w' w.heap.size (fun k_ => some k_ ≠ (cc : Value).ownBlock) cd r6 ∧ Kd.S (Kd.slice 3 (Kd.int .i64)) 24 w' w.heap.size (fun k_ => some k_ ≠ (cc : Value).ownBlock ∧ some k_ ≠ (cd : Value).ownBlock) gV r7 ∧ Below w.heap.size w w' := by
 have u : Rd w ⟨az,aj.length,aA⟩ ⟨aB,ai.length,aC⟩ ⟨aD,ak.length,aE⟩ aj ai ak := ⟨rfl,rfl,rfl,bk,bn,bp,bj,bm,bo⟩
 have u' : Rd w ⟨aP,aq.length,aQ⟩ ⟨aR,an.length,aS⟩ ⟨aT,ar.length,aU⟩ aq an ar := ⟨rfl,rfl,rfl,br,bu,bz,bq,bs,bw⟩
 unfold spec_l3Merge.f at h
 obtain ⟨CA,h1,h⟩ := Option.bind_eq_some_iff.mp h
 obtain ⟨CS,h2,h⟩ := Option.bind_eq_some_iff.mp h
 obtain ⟨LM,h3,h⟩ := Option.bind_eq_some_iff.mp h
 obtain ⟨HM,h4,h⟩ := Option.bind_eq_some_iff.mp h
 obtain ⟨HZ,h5,h⟩ := Option.bind_eq_some_iff.mp h
 obtain ⟨Z0,h6,h⟩ := Option.bind_eq_some_iff.mp h
 obtain ⟨Z1,h7,h⟩ := Option.bind_eq_some_iff.mp h
 by_cases g : spec_l3Merge.G aj ai ak aq an ar HZ Z0 Z1
 ·rw [if_pos g] at h
  simp only [Option.some.injEq,Prod.mk.injEq] at h
  obtain ⟨rfl,rfl,rfl,rfl,rfl,rfl,rfl⟩ := h
  obtain ⟨g1,g2,g3,g4⟩ := g
  have q1 : ((al == 0) = true ∧ (if al = 0 then ax else LM) = ax) ∨ ((al == 0) = false ∧ (if al = 0 then ax else LM) = LM) := by
   by_cases e : al = 0
   ·exact .inl ⟨by simp [e],if_pos e⟩
   ·exact .inr ⟨by simp [e],if_neg e⟩
  have q2 : ((ay == 0) = true ∧ spec_l3Merge.lo al ao ay ax LM = ao) ∨ ((ay == 0) = false ∧ spec_l3Merge.lo al ao ay ax LM = (if al = 0 then ax else LM)) := by
   unfold spec_l3Merge.lo
   by_cases e : ay = 0
   ·exact .inl ⟨by simp [e],if_pos e⟩
   ·exact .inr ⟨by simp [e],if_neg e⟩
  refine (spec_l3Merge.walk k _ _ _ _ _ _ _ _ w u u' ⟨g1⟩ _ _ _ _ ⟨h1⟩ ⟨h2⟩ ⟨h3⟩ ⟨h4⟩ _ _ _ ⟨h5⟩ ⟨h6⟩ ⟨h7⟩ _ _ ⟨q1⟩ ⟨q2⟩ _ ⟨g3,g4⟩ g2).mono ?_
  rintro e w' ⟨x,y,z,a,b,rfl,hs,hm,hb⟩
  obtain ⟨k1,k2,k3⟩ := hs.kd hm.1
  refine ⟨_,_,_,rfl,k1,k2,k3,hb⟩
 ·rw [if_neg g] at h
  cases h



def slices_Equal_int_int.l0 : Nat → List Int → List Int → Int → Int → Option (Bool)
 | 0,_,_,_,_ => none
 | k + 1,x0,x1,gW,bC => if bC < gW then (if 0 ≤ bC then (if bC < (x0.length : Int) then (if bC < (x1.length : Int) then (if (rd x0 bC) = (rd x1 bC) then (slices_Equal_int_int.l0 k x0 x1 gW (wrap64 (bC + 1))) else (some false)) else (none)) else (none)) else (none)) else (some true)
def slices_Equal_int_int.f (k : Nat) (l0 : List Int) (l1 : List Int) : Option (Bool) := if (l0.length : Int) = (l1.length : Int) then (slices_Equal_int_int.l0 k l0 l1 (l0.length : Int) 0) else (some false)
theorem slices_Equal_int_int.calls (k : Nat) (A0 : Option Addr) (c0 : Nat) (l0 : List Int) (A1 : Option Addr) (c1 : Nat) (l1 : List Int) (r : Bool) (w : World) (bL : Kd.C (Kd.int .i64) w A0 l0.length l0) (bU : l0.length ≤ c0) (bK : Kd.C (Kd.int .i64) w A1 l1.length l1) (gH : l1.length ≤ c1) (h : slices_Equal_int_int.f k l0 l1 = some r) :
  Calls Try.prog 47 #[.slice A0 l0.length c0,.slice A1 l1.length c1] w fun e w' => e = .returned (.bool r) ∧ Drawn0 w w' := by
 have cg := mkA bL
 have iy := mkA bU
 clear bL bU
 have cj := mkA bK
 have iz := mkA gH
 clear bK gH
 have H := h
 unfold slices_Equal_int_int.f at H
 clear h
 by_cases c3 : (l0.length : Int) = (l1.length : Int)
 ·rw [if_pos c3] at H
  have c3b0 : ((l0.length : Int) == (l1.length : Int)) = true := beq_iff_eq.mpr c3
  have c3b1 : ((l0.length : Int) != (l1.length : Int)) = false := bne_eq_false_iff_eq.mpr c3
  have c3b2 : (l0.length == l1.length) = true := by first | simpa using c3 | (simp at c3 ⊢;omega)
  clear c3
  have H' := mkA H
  clear H
  go_enter Try.func47,Try.ntmps47
  go_wp2
  repeat (go_quiet (fail);try go_wp2)
  go_loopg [13] k (fun kq h_ w' => ∃ (ae : Int),h_ = vi ae ∧ Aside0 (slices_Equal_int_int.l0 kq l0 l1 (l0.length : Int) ae = some r) ∧ Aside0 (kq ≤ k) ∧ Drawn0 w w')
  case atStart => exact ⟨(0),(by first | rfl | (simp;done) | (simp [*];done)),H',⟨Nat.le_refl _⟩,by repeat (first | exact Drawn0.refl _ | apply Drawn0.step)⟩
  case round =>
   clear H'
   try clear c1
   try clear p2
   try clear c3
   try clear c3b0
   try clear c3b1
   try clear c3b2
   obtain ⟨ae,rfl,HA,gX,⟨m1,rfl⟩⟩ := hrel
   cases gk with
   | zero => exact absurd HA.out (by simp [slices_Equal_int_int.l0])
   | succ k1 =>
    have H := HA.out;clear HA;simp only [slices_Equal_int_int.l0] at H
    by_cases c4 : ae < (l0.length : Int)
    ·rw [if_pos c4] at H
     have c4b0 : decide (ae < (l0.length : Int)) = true := decide_eq_true c4;clear c4
     by_cases c5 : 0 ≤ ae
     ·rw [if_pos c5] at H
      have c5b0 : decide (0 ≤ ae) = true := decide_eq_true c5;clear c5
      by_cases c6 : ae < (l0.length : Int)
      ·rw [if_pos c6] at H
       have c6b0 : decide (ae < (l0.length : Int)) = true := decide_eq_true c6;clear c6
       by_cases c7 : ae < (l1.length : Int)
       ·rw [if_pos c7] at H
        have c7b0 : decide (ae < (l1.length : Int)) = true := decide_eq_true c7;clear c7
        by_cases c8 : (rd l0 ae) = (rd l1 ae)
        ·rw [if_pos c8] at H
         have c8b0 : ((rd l0 ae) == (rd l1 ae)) = true := beq_iff_eq.mpr c8;have c8b1 : ((rd l0 ae) != (rd l1 ae)) = false := bne_eq_false_iff_eq.mpr c8;clear c8;have H' := mkA H;clear H;have bd : 0 ≤ (ae : Int) := of_decide_eq_true Z17x11;have bf : ae < (l0.length : Int) := of_decide_eq_true Z17x11;obtain ⟨bV,bD,b6⟩ := Kd.at_int cg.out ae bd bf
         cases bD
         replace bd := eq_true bd;replace bf := eq_true bf;have bg : 0 ≤ (ae : Int) := of_decide_eq_true Z17x11;have bh : ae < (l1.length : Int) := of_decide_eq_true Z17x11;obtain ⟨bW,bE,b7⟩ := Kd.at_int cj.out ae bg bh
         cases bE
         replace bg := eq_true bg;replace bh := eq_true bh
         go_wp2
         repeat (go_quiet (fail);try go_wp2)
         go_roundg k1
         case measure => have := gX.out;omega
         case rel => exact ⟨(wrap64 (ae + 1)),(by first | rfl | (simp;done) | (simp [*];done)),H',⟨by have := gX.out;omega⟩,by repeat (first | exact Drawn0.refl _ | apply Drawn0.step)⟩
        ·rw [if_neg c8] at H
         have c8b0 : ((rd l0 ae) == (rd l1 ae)) = false := beq_eq_false_iff_ne.mpr c8;have c8b1 : ((rd l0 ae) != (rd l1 ae)) = true := bne_iff_ne.mpr c8;obtain rfl := Option.some.inj H;simp only [Option.some.injEq,Prod.mk.injEq] at H;obtain ⟨rfl⟩ := H;have bd : 0 ≤ (ae : Int) := of_decide_eq_true Z17x11;have bf : ae < (l0.length : Int) := of_decide_eq_true Z17x11;obtain ⟨bV,bD,b6⟩ := Kd.at_int cg.out ae bd bf
         cases bD
         replace bd := eq_true bd;replace bf := eq_true bf;have bg : 0 ≤ (ae : Int) := of_decide_eq_true Z17x11;have bh : ae < (l1.length : Int) := of_decide_eq_true Z17x11;obtain ⟨bW,bE,b7⟩ := Kd.at_int cj.out ae bg bh
         cases bE
         replace bg := eq_true bg;replace bh := eq_true bh
         go_wp2
         repeat (go_quiet (fail);try go_wp2)
         go_ret
         exact ⟨by first | rfl | (simp;done) | (simp [*];done),by repeat (first | exact Drawn0.refl _ | apply Drawn0.step)⟩
       ·rw [if_neg c7] at H
        exact absurd H (by simp)
      ·rw [if_neg c6] at H
       exact absurd H (by simp)
     ·rw [if_neg c5] at H
      exact absurd H (by simp)
    ·rw [if_neg c4] at H
     have c4b0 : decide (ae < (l0.length : Int)) = false := decide_eq_false c4;clear c4;obtain rfl := Option.some.inj H;simp only [Option.some.injEq,Prod.mk.injEq] at H;obtain ⟨rfl⟩ := H
     go_wp2
     repeat (go_quiet (fail);try go_wp2)
     go_ret
     exact ⟨by first | rfl | (simp;done) | (simp [*];done),by repeat (first | exact Drawn0.refl _ | apply Drawn0.step)⟩
 ·rw [if_neg c3] at H
  have c3b0 : ((l0.length : Int) == (l1.length : Int)) = false := beq_eq_false_iff_ne.mpr c3
  have c3b1 : ((l0.length : Int) != (l1.length : Int)) = true := bne_iff_ne.mpr c3
  have c3b2 : (l0.length == l1.length) = false := by first | simpa using c3 | (simp at c3 ⊢;omega)
  obtain rfl := Option.some.inj H
  simp only [Option.some.injEq,Prod.mk.injEq] at H
  obtain ⟨rfl⟩ := H
  go_enter Try.func47,Try.ntmps47
  go_wp2
  repeat (go_quiet (fail);try go_wp2)
  go_ret
  exact ⟨by first | rfl | (simp;done) | (simp [*];done),by repeat (first | exact Drawn0.refl _ | apply Drawn0.step)⟩

theorem slices_EqualFunc_int_int_int_int.at_ {w : World} {A : Option Addr} {e : Nat} {xs : List (List Int)} (h : Kd.C (Kd.slice e (Kd.int .i64)) w A xs.length xs) (i : Nat) (h1 : i < xs.length) :
  ∃ ad A0 c0,A = some ad ∧ w.cell? (ad.add i) = some (.slice A0 xs[i].length c0) ∧ xs[i].length ≤ c0 ∧ (Kd.int .i64).C w A0 xs[i].length xs[i] := by
 obtain ⟨ad,c,e,_,hK,bU⟩ := Kd.C_get h ([] : List Int) (i : Int) (by omega) (by omega)
 obtain ⟨A0,c0,rfl,l0,g0⟩ := hK
 have hq := bU 0 _ rfl
 have hx : xs.getD i [] = xs[i] := by rw [List.getD_eq_getElem?_getD,List.getElem?_eq_getElem h1];rfl
 simp only [Int.toNat_natCast] at hq l0 g0
 rw [hx] at hq l0 g0
 exact ⟨ad,A0,c0,e,by rwa [show i * (Kd.slice _ (Kd.int .i64)).sz + 0 = i from by simp [Kd.slice]] at hq,l0,g0⟩
def slices_EqualFunc_int_int_int_int.l0 : Nat → Nat → List (List Int) → List (List Int) → Nat → Option Bool
 | 0,_,_,_,_ => none
 | g + 1,k,l0,l1,i => if h : i < l0.length then if h1 : i < l1.length then (slices_Equal_int_int.f k l0[i] l1[i]).bind fun b => if b = true then slices_EqualFunc_int_int_int_int.l0 g k l0 l1 (i + 1) else some false else none else some true
def slices_EqualFunc_int_int_int_int.f (k : Nat) (l0 l1 : List (List Int)) : Option Bool := if l0.length = l1.length then slices_EqualFunc_int_int_int_int.l0 (l0.length + 1) k l0 l1 0 else some false
theorem slices_EqualFunc_int_int_int_int.calls (k : Nat) (A0 : Option Addr) (c0 : Nat) (l0 : List (List Int)) (A1 : Option Addr) (c1 : Nat) (l1 : List (List Int)) (r : Bool) (w : World) (bL : Kd.C (Kd.slice 3 (Kd.int .i64)) w A0 l0.length l0) (bU : l0.length ≤ c0) (bK : Kd.C (Kd.slice 3 (Kd.int .i64)) w A1 l1.length l1) (gH : l1.length ≤ c1) (h : slices_EqualFunc_int_int_int_int.f k l0 l1 = some r) :
  Calls Try.prog 48 #[.slice A0 l0.length c0,.slice A1 l1.length c1,.func (.func 47) #[] #[]] w fun e w' => e = .returned (.bool r) ∧ Drawn0 w w' := by
 have hmax := Kd.C_max bL
 have cg := mkA bL
 have cj := mkA bK
 clear bL bK
 unfold slices_EqualFunc_int_int_int_int.f at h
 by_cases hl : l0.length = l1.length
 ·rw [if_pos hl] at h
  have ia : ((l0.length : Int) != (l1.length : Int)) = false := by simp [hl]
  have HL := mkA hl
  have H := mkA h
  clear hl h
  go_enter Try.func48,Try.ntmps48
  go_wp2
  go_loopg [7,8,9,17] l0.length (fun gg _ _ _ s wr => ∃ kk : Nat,kk ≤ l0.length ∧ l0.length - kk ≤ gg ∧ s = vi kk ∧ Aside0 (slices_EqualFunc_int_int_int_int.l0 (l0.length + 1 - kk) k l0 l1 kk = some r) ∧ Drawn0 w wr)
  case atStart => exact ⟨0,Nat.zero_le _,by omega,rfl,H,⟨0,rfl⟩⟩
  case round =>
   clear H
   obtain ⟨kk,hkk,hg,rfl,HA,⟨gI,rfl⟩⟩ := hrel
   by_cases hlt : kk < l0.length
   ·have hltz : (kk : Int) < (l0.length : Int) := by omega
    have gY : (kk : Int) < (l1.length : Int) := by have := HL.out;omega
    have h := HA.out;clear HA;rw [show l0.length + 1 - kk = (l0.length - kk) + 1 by omega] at h;unfold slices_EqualFunc_int_int_int_int.l0 at h;rw [dif_pos hlt,dif_pos (show kk < l1.length by omega)] at h;obtain ⟨b,hb,h2⟩ := Option.bind_eq_some_iff.mp h;clear h;obtain ⟨ad,A2,d2,e1,g1,ib,gZ⟩ := slices_EqualFunc_int_int_int_int.at_ (Kd.C_drewN cg.out gI) kk hlt;obtain ⟨iA,A3,d3,e2,g2,ic,g_⟩ := slices_EqualFunc_int_int_int_int.at_ (Kd.C_drewN cj.out gI) kk (by omega);subst e1;subst e2;have hcall := slices_Equal_int_int.calls k A2 d2 l0[kk] A3 d3 (l1[kk]'(by omega)) b (w.drewN gI) gZ ib g_ ic hb;have H2 := mkA h2;clear h2 hb gZ g_;generalize l0[kk] = y0 at *;generalize l1[kk]'(by omega) = y1 at *
    cases b with
    | true =>
     go_wp2_with (go_at_call 47;refine hcall.mono ?_;rintro e w' ⟨rfl,⟨nd,rfl⟩⟩)
     go_roundg (l0.length - (kk + 1))
     case measure => omega
     case rel => exact ⟨kk + 1,by omega,by omega,by go_num,⟨by have h3 := H2.out;simp only [if_true] at h3;rw [show l0.length + 1 - (kk + 1) = l0.length - kk by omega];exact h3⟩,⟨_,rfl⟩⟩
    | false =>
     go_wp2_with (go_at_call 47;refine hcall.mono ?_;rintro e w' ⟨rfl,⟨nd,rfl⟩⟩)
     go_ret
     have h3 := H2.out;simp only [Bool.false_eq_true,if_false] at h3;obtain rfl := Option.some.inj h3;exact ⟨rfl,⟨_,rfl⟩⟩
   ·have hltz : ¬ (kk : Int) < (l0.length : Int) := by omega
    obtain rfl : kk = l0.length := by omega
    have h := HA.out;clear HA;rw [show l0.length + 1 - l0.length = 0 + 1 by omega] at h;unfold slices_EqualFunc_int_int_int_int.l0 at h;rw [dif_neg hlt] at h;obtain rfl := Option.some.inj h;clear h
    go_wp2
    go_ret
    exact ⟨rfl,⟨_,rfl⟩⟩
 ·rw [if_neg hl] at h
  obtain rfl := Option.some.inj h
  clear h
  have ia : ((l0.length : Int) != (l1.length : Int)) = true := by simp;omega
  have HL := mkA hl
  clear hl
  go_enter Try.func48,Try.ntmps48
  go_wp2
  go_ret
  exact ⟨rfl,⟨0,rfl⟩⟩

def impl_SketchSame.f (k : Nat) (al : Int) (av : Int) (ao : Int) (aw : Int) (aj : List Int) (ai : List Int) (ak : List (List Int)) (ay : Int) (aF : Int) (ax : Int) (aG : Int) (aq : List Int) (an : List Int) (ar : List (List Int)) : Option (Bool) := if al = ay then (if av = aF then (if ao = ax then (if aw = aG then ((slices_Equal_int_int.f k aj aq).bind fun bF => (if bF = true then ((slices_Equal_int_int.f k ai an).bind fun bG => (if bG = true then ((slices_EqualFunc_int_int_int_int.f k ak ar).bind fun bH => (some bH)) else (some false))) else (some false))) else (some false)) else (some false)) else (some false)) else (some false)
theorem impl_SketchSame.calls (k : Nat) (al : Int) (av : Int) (ao : Int) (aw : Int) (az : Option Addr) (aA : Nat) (aj : List Int) (aB : Option Addr) (aC : Nat) (ai : List Int) (aD : Option Addr) (aE : Nat) (ak : List (List Int)) (ay : Int) (aF : Int) (ax : Int) (aG : Int) (aP : Option Addr) (aQ : Nat) (aq : List Int) (aR : Option Addr) (aS : Nat) (an : List Int) (aT : Option Addr) (aU : Nat) (ar : List (List Int)) (r : Bool) (w : World) (bj : Kd.C (Kd.int .i64) w az aj.length aj) (bk : aj.length ≤ aA) (bm : Kd.C (Kd.int .i64) w aB ai.length ai) (bn : ai.length ≤ aC) (bo : Kd.C (Kd.slice 3 (Kd.int .i64)) w aD ak.length ak) (bp : ak.length ≤ aE) (bq : Kd.C (Kd.int .i64) w aP aq.length aq) (br : aq.length ≤ aQ) (bs : Kd.C (Kd.int .i64) w aR an.length an) (bu : an.length ≤ aS) (bw : Kd.C (Kd.slice 3 (Kd.int .i64)) w aT ar.length ar) (bz : ar.length ≤ aU) (h : impl_SketchSame.f k al av ao aw aj ai ak ay aF ax aG aq an ar = some r) :
  Calls Try.prog 18 #[.agg #[vi al,vi av,vi ao,vi aw,.slice az aj.length aA,.slice aB ai.length aC,.slice aD ak.length aE],.agg #[vi ay,vi aF,vi ax,vi aG,.slice aP aq.length aQ,.slice aR an.length aS,.slice aT ar.length aU]] w fun e w' => e = .returned (.bool r) ∧ Below w.heap.size w w' := by
 have ie := Try.underlying27
 have bM := mkA bj
 have b2 := mkA bk
 clear bj bk
 have b8 := mkA bm
 have b9 := mkA bn
 clear bm bn
 have bX := mkA bo
 have bY := mkA bp
 clear bo bp
 have bN := mkA bq
 have b3 := mkA br
 clear bq br
 have bA := mkA bs
 have bB := mkA bu
 clear bs bu
 have bZ := mkA bw
 have b_ := mkA bz
 clear bw bz
 have HB := mkA (Below.refl w.heap.size w)
 have H := h
 unfold impl_SketchSame.f at H
 clear h
 by_cases c3 : al = ay
 ·rw [if_pos c3] at H
  have c3b0 : (al == ay) = true := beq_iff_eq.mpr c3
  have c3b1 : (al != ay) = false := bne_eq_false_iff_eq.mpr c3
  clear c3
  by_cases c4 : av = aF
  ·rw [if_pos c4] at H
   have c4b0 : (av == aF) = true := beq_iff_eq.mpr c4
   have c4b1 : (av != aF) = false := bne_eq_false_iff_eq.mpr c4
   clear c4
   by_cases c5 : ao = ax
   ·rw [if_pos c5] at H
    have c5b0 : (ao == ax) = true := beq_iff_eq.mpr c5;have c5b1 : (ao != ax) = false := bne_eq_false_iff_eq.mpr c5;clear c5
    by_cases c6 : aw = aG
    ·rw [if_pos c6] at H
     have c6b0 : (aw == aG) = true := beq_iff_eq.mpr c6;have c6b1 : (aw != aG) = false := bne_eq_false_iff_eq.mpr c6;clear c6;replace H := Option.bind_eq_some_iff.mp H;obtain ⟨bF,hf,H⟩ := H
     try dsimp only at H
     have A7 := mkA hf;clear hf
     by_cases c8 : bF = true
     ·subst c8
      rw [if_pos rfl] at H;replace H := Option.bind_eq_some_iff.mp H;obtain ⟨bG,ht,H⟩ := H
      try dsimp only at H
      have A9 := mkA ht;clear ht
      by_cases c10 : bG = true
      ·subst c10
       rw [if_pos rfl] at H;replace H := Option.bind_eq_some_iff.mp H;obtain ⟨bH,ca,H⟩ := H
       try dsimp only at H
       have ig := mkA ca;clear ca;obtain rfl := Option.some.inj H;simp only [Option.some.injEq,Prod.mk.injEq] at H;obtain ⟨rfl⟩ := H
       go_enter Try.func18,Try.ntmps18
       go_wp2_with (first | ((with_reducible refine gate_dst (N := 2) rfl ?_);refine box_event ?hg (N := 2) ?hd (cs := #[vi al,vi av,vi ao,vi aw,.slice az aj.length aA,.slice aB ai.length aC,.slice aD ak.length aE]) (t := 27) ?hr ?_;(case hd => rfl);(case hg => rfl);(case hr => first | (go_simp;done) | (go_simp;rfl));intro aa hg iB hbox hb;have aH := mkA (below_step Z17x1 hb);have aI := mkA (hbox);have aJ := mkA ((Z17x7 : w.heap.size ≤ aa));have aK := mkA ((Z17x7 : w.heap.size ≤ aa));clear HB;have HB := aH;have ab := aI;have aX := aJ;have aV := aK;clear aH aI aJ aK;clear hb hbox hg) | ((with_reducible refine gate_dst (N := 3) rfl ?_);refine box_event ?hg (N := 3) ?hd (cs := #[vi ay,vi aF,vi ax,vi aG,.slice aP aq.length aQ,.slice aR an.length aS,.slice aT ar.length aU]) (t := 27) ?hr ?_;(case hd => rfl);(case hg => rfl);(case hr => first | (go_simp;done) | (go_simp;rfl));intro af hg iC hbox hb;have aH := mkA (blk_below (g := aa) (o := .cells #[vi al,vi av,vi ao,vi aw,.slice az aj.length aA,.slice aB ai.length aC,.slice aD ak.length aE] 27 (0,0)) Z17x3 hb);have aI := mkA (below_step Z17x0 hb);have aJ := mkA (hbox);have aK := mkA ((Z17x8 : w.heap.size ≤ af));have aY := mkA ((Z17x8 : w.heap.size ≤ af));have aZ := mkA ((Z17x4 : aa ≠ af));have a_ := mkA ((Z17x5 : af ≠ aa));clear ab;clear HB;have ab := aH;have HB := aI;have au := aJ;have bc := aK;have aW := aY;have ag := aZ;have ah := a_;clear aH aI aJ aK aY aZ a_;clear hb hbox hg;have hv := ag.out;have hy := ah.out;obtain ⟨ck,cm,cn,cq,cr,ct,cu⟩ := cz7 ab.out;obtain ⟨cv,cw,cx,cy,cz,cA,cB⟩ := fz7 ab.out;obtain ⟨cC,cD,cE,cF,cG,cH,cI⟩ := cz7 au.out;obtain ⟨cJ,cK,cL,cM,cN,cO,cP⟩ := fz7 au.out) | (go_at_call 47;(with_reducible refine (slices_Equal_int_int.calls k _ _ aj _ _ aq true _ ?aL ?aM ?aN ?aO A7.out).mono ?_);(case aL => exact Z17x9);(case aM => exact b2.out);(case aN => exact Z17x10);(case aO => exact b3.out);rintro e w' ⟨rfl,⟨nd,rfl⟩⟩) | (go_at_call 47;(with_reducible refine (slices_Equal_int_int.calls k _ _ ai _ _ an true _ ?aL ?aM ?aN ?aO A9.out).mono ?_);(case aL => repeat (first | exact (Kd.C_below b8.out Z17x2) | (with_reducible refine Kd.C_alloc ?_ _) | (with_reducible refine Kd.C_drewN ?_ _) | (with_reducible refine Kd.C_drew ?_)));(case aM => exact b9.out);(case aN => repeat (first | exact (Kd.C_below bA.out Z17x2) | (with_reducible refine Kd.C_alloc ?_ _) | (with_reducible refine Kd.C_drewN ?_ _) | (with_reducible refine Kd.C_drew ?_)));(case aO => exact bB.out);rintro e w' ⟨rfl,⟨nd,rfl⟩⟩) | (go_at_call 48;(with_reducible refine (slices_EqualFunc_int_int_int_int.calls k _ _ ak _ _ ar  bH _ ?aL ?aM ?aN ?aO ig.out).mono ?_);(case aL => repeat (first | exact (Kd.C_below bX.out Z17x2) | (with_reducible refine Kd.C_alloc ?_ _) | (with_reducible refine Kd.C_drewN ?_ _) | (with_reducible refine Kd.C_drew ?_)));(case aM => exact bY.out);(case aN => repeat (first | exact (Kd.C_below bZ.out Z17x2) | (with_reducible refine Kd.C_alloc ?_ _) | (with_reducible refine Kd.C_drewN ?_ _) | (with_reducible refine Kd.C_drew ?_)));(case aO => exact b_.out);rintro e w' ⟨rfl,⟨nd,rfl⟩⟩))
       go_ret
       exact ⟨Z17x6,Z17x2⟩
      ·replace c10 := Bool.eq_false_iff.mpr c10
       subst c10;rw [if_neg (show ¬ (false = true) by decide)] at H;obtain rfl := Option.some.inj H;simp only [Option.some.injEq,Prod.mk.injEq] at H;obtain ⟨rfl⟩ := H
       go_enter Try.func18,Try.ntmps18
       go_wp2_with (first | ((with_reducible refine gate_dst (N := 2) rfl ?_);refine box_event ?hg (N := 2) ?hd (cs := #[vi al,vi av,vi ao,vi aw,.slice az aj.length aA,.slice aB ai.length aC,.slice aD ak.length aE]) (t := 27) ?hr ?_;(case hd => rfl);(case hg => rfl);(case hr => first | (go_simp;done) | (go_simp;rfl));intro aa hg iD hbox hb;have aH := mkA (below_step Z17x1 hb);have aI := mkA (hbox);have aJ := mkA ((Z17x7 : w.heap.size ≤ aa));have aK := mkA ((Z17x7 : w.heap.size ≤ aa));clear HB;have HB := aH;have ab := aI;have aX := aJ;have aV := aK;clear aH aI aJ aK;clear hb hbox hg) | ((with_reducible refine gate_dst (N := 3) rfl ?_);refine box_event ?hg (N := 3) ?hd (cs := #[vi ay,vi aF,vi ax,vi aG,.slice aP aq.length aQ,.slice aR an.length aS,.slice aT ar.length aU]) (t := 27) ?hr ?_;(case hd => rfl);(case hg => rfl);(case hr => first | (go_simp;done) | (go_simp;rfl));intro af hg iE hbox hb;have aH := mkA (blk_below (g := aa) (o := .cells #[vi al,vi av,vi ao,vi aw,.slice az aj.length aA,.slice aB ai.length aC,.slice aD ak.length aE] 27 (0,0)) Z17x3 hb);have aI := mkA (below_step Z17x0 hb);have aJ := mkA (hbox);have aK := mkA ((Z17x8 : w.heap.size ≤ af));have aY := mkA ((Z17x8 : w.heap.size ≤ af));have aZ := mkA ((Z17x4 : aa ≠ af));have a_ := mkA ((Z17x5 : af ≠ aa));clear ab;clear HB;have ab := aH;have HB := aI;have au := aJ;have bc := aK;have aW := aY;have ag := aZ;have ah := a_;clear aH aI aJ aK aY aZ a_;clear hb hbox hg;have h9 := ag.out;have hA := ah.out;obtain ⟨cQ,cR,cS,cT,cU,cV,cW⟩ := cz7 ab.out;obtain ⟨cX,cY,cZ,c_,da,db,dc⟩ := fz7 ab.out;obtain ⟨dd,de,df,dg,dh,di,dj⟩ := cz7 au.out;obtain ⟨dk,dm,dn,dp,dq,dr,dt⟩ := fz7 au.out) | (go_at_call 47;(with_reducible refine (slices_Equal_int_int.calls k _ _ aj _ _ aq true _ ?aL ?aM ?aN ?aO A7.out).mono ?_);(case aL => exact Z17x9);(case aM => exact b2.out);(case aN => exact Z17x10);(case aO => exact b3.out);rintro e w' ⟨rfl,⟨nd,rfl⟩⟩) | (go_at_call 47;(with_reducible refine (slices_Equal_int_int.calls k _ _ ai _ _ an false _ ?aL ?aM ?aN ?aO A9.out).mono ?_);(case aL => repeat (first | exact (Kd.C_below b8.out Z17x2) | (with_reducible refine Kd.C_alloc ?_ _) | (with_reducible refine Kd.C_drewN ?_ _) | (with_reducible refine Kd.C_drew ?_)));(case aM => exact b9.out);(case aN => repeat (first | exact (Kd.C_below bA.out Z17x2) | (with_reducible refine Kd.C_alloc ?_ _) | (with_reducible refine Kd.C_drewN ?_ _) | (with_reducible refine Kd.C_drew ?_)));(case aO => exact bB.out);rintro e w' ⟨rfl,⟨nd,rfl⟩⟩))
       go_ret
       exact ⟨Z17x6,Z17x2⟩
     ·replace c8 := Bool.eq_false_iff.mpr c8
      subst c8;rw [if_neg (show ¬ (false = true) by decide)] at H;obtain rfl := Option.some.inj H;simp only [Option.some.injEq,Prod.mk.injEq] at H;obtain ⟨rfl⟩ := H
      go_enter Try.func18,Try.ntmps18
      go_wp2_with (first | ((with_reducible refine gate_dst (N := 2) rfl ?_);refine box_event ?hg (N := 2) ?hd (cs := #[vi al,vi av,vi ao,vi aw,.slice az aj.length aA,.slice aB ai.length aC,.slice aD ak.length aE]) (t := 27) ?hr ?_;(case hd => rfl);(case hg => rfl);(case hr => first | (go_simp;done) | (go_simp;rfl));intro aa hg iF hbox hb;have aH := mkA (below_step Z17x1 hb);have aI := mkA (hbox);have aJ := mkA ((Z17x7 : w.heap.size ≤ aa));have aK := mkA ((Z17x7 : w.heap.size ≤ aa));clear HB;have HB := aH;have ab := aI;have aX := aJ;have aV := aK;clear aH aI aJ aK;clear hb hbox hg) | ((with_reducible refine gate_dst (N := 3) rfl ?_);refine box_event ?hg (N := 3) ?hd (cs := #[vi ay,vi aF,vi ax,vi aG,.slice aP aq.length aQ,.slice aR an.length aS,.slice aT ar.length aU]) (t := 27) ?hr ?_;(case hd => rfl);(case hg => rfl);(case hr => first | (go_simp;done) | (go_simp;rfl));intro af hg iG hbox hb;have aH := mkA (blk_below (g := aa) (o := .cells #[vi al,vi av,vi ao,vi aw,.slice az aj.length aA,.slice aB ai.length aC,.slice aD ak.length aE] 27 (0,0)) Z17x3 hb);have aI := mkA (below_step Z17x0 hb);have aJ := mkA (hbox);have aK := mkA ((Z17x8 : w.heap.size ≤ af));have aY := mkA ((Z17x8 : w.heap.size ≤ af));have aZ := mkA ((Z17x4 : aa ≠ af));have a_ := mkA ((Z17x5 : af ≠ aa));clear ab;clear HB;have ab := aH;have HB := aI;have au := aJ;have bc := aK;have aW := aY;have ag := aZ;have ah := a_;clear aH aI aJ aK aY aZ a_;clear hb hbox hg;have hB := ag.out;have hD := ah.out;obtain ⟨du,dv,dw,dx,dy,dz,dA⟩ := cz7 ab.out;obtain ⟨dB,dC,dD,dE,dF,dG,dH⟩ := fz7 ab.out;obtain ⟨dI,dJ,dK,dL,dM,dN,dO⟩ := cz7 au.out;obtain ⟨dP,dQ,dR,dS,dT,dU,dV⟩ := fz7 au.out) | (go_at_call 47;(with_reducible refine (slices_Equal_int_int.calls k _ _ aj _ _ aq false _ ?aL ?aM ?aN ?aO A7.out).mono ?_);(case aL => exact Z17x9);(case aM => exact b2.out);(case aN => exact Z17x10);(case aO => exact b3.out);rintro e w' ⟨rfl,⟨nd,rfl⟩⟩))
      go_ret
      exact ⟨Z17x6,Z17x2⟩
    ·rw [if_neg c6] at H
     have c6b0 : (aw == aG) = false := beq_eq_false_iff_ne.mpr c6;have c6b1 : (aw != aG) = true := bne_iff_ne.mpr c6;obtain rfl := Option.some.inj H;simp only [Option.some.injEq,Prod.mk.injEq] at H;obtain ⟨rfl⟩ := H
     go_enter Try.func18,Try.ntmps18
     go_wp2_with (first | ((with_reducible refine gate_dst (N := 2) rfl ?_);refine box_event ?hg (N := 2) ?hd (cs := #[vi al,vi av,vi ao,vi aw,.slice az aj.length aA,.slice aB ai.length aC,.slice aD ak.length aE]) (t := 27) ?hr ?_;(case hd => rfl);(case hg => rfl);(case hr => first | (go_simp;done) | (go_simp;rfl));intro aa hg iH hbox hb;have aH := mkA (below_step Z17x1 hb);have aI := mkA (hbox);have aJ := mkA ((Z17x7 : w.heap.size ≤ aa));have aK := mkA ((Z17x7 : w.heap.size ≤ aa));clear HB;have HB := aH;have ab := aI;have aX := aJ;have aV := aK;clear aH aI aJ aK;clear hb hbox hg) | ((with_reducible refine gate_dst (N := 3) rfl ?_);refine box_event ?hg (N := 3) ?hd (cs := #[vi ay,vi aF,vi ax,vi aG,.slice aP aq.length aQ,.slice aR an.length aS,.slice aT ar.length aU]) (t := 27) ?hr ?_;(case hd => rfl);(case hg => rfl);(case hr => first | (go_simp;done) | (go_simp;rfl));intro af hg iI hbox hb;have aH := mkA (blk_below (g := aa) (o := .cells #[vi al,vi av,vi ao,vi aw,.slice az aj.length aA,.slice aB ai.length aC,.slice aD ak.length aE] 27 (0,0)) Z17x3 hb);have aI := mkA (below_step Z17x0 hb);have aJ := mkA (hbox);have aK := mkA ((Z17x8 : w.heap.size ≤ af));have aY := mkA ((Z17x8 : w.heap.size ≤ af));have aZ := mkA ((Z17x4 : aa ≠ af));have a_ := mkA ((Z17x5 : af ≠ aa));clear ab;clear HB;have ab := aH;have HB := aI;have au := aJ;have bc := aK;have aW := aY;have ag := aZ;have ah := a_;clear aH aI aJ aK aY aZ a_;clear hb hbox hg;have hE := ag.out;have hF := ah.out;obtain ⟨dW,dX,dY,dZ,d_,ea,eb⟩ := cz7 ab.out;obtain ⟨ec,ed,ee,ef,eg,eh,ei⟩ := fz7 ab.out;obtain ⟨ej,ek,en,eo,ep,er,et⟩ := cz7 au.out;obtain ⟨eu,ev,ew,ey,ez,e7,e8⟩ := fz7 au.out))
     go_ret
     exact ⟨Z17x6,Z17x2⟩
   ·rw [if_neg c5] at H
    have c5b0 : (ao == ax) = false := beq_eq_false_iff_ne.mpr c5;have c5b1 : (ao != ax) = true := bne_iff_ne.mpr c5;obtain rfl := Option.some.inj H;simp only [Option.some.injEq,Prod.mk.injEq] at H;obtain ⟨rfl⟩ := H
    go_enter Try.func18,Try.ntmps18
    go_wp2_with (first | ((with_reducible refine gate_dst (N := 2) rfl ?_);refine box_event ?hg (N := 2) ?hd (cs := #[vi al,vi av,vi ao,vi aw,.slice az aj.length aA,.slice aB ai.length aC,.slice aD ak.length aE]) (t := 27) ?hr ?_;(case hd => rfl);(case hg => rfl);(case hr => first | (go_simp;done) | (go_simp;rfl));intro aa hg iJ hbox hb;have aH := mkA (below_step Z17x1 hb);have aI := mkA (hbox);have aJ := mkA ((Z17x7 : w.heap.size ≤ aa));have aK := mkA ((Z17x7 : w.heap.size ≤ aa));clear HB;have HB := aH;have ab := aI;have aX := aJ;have aV := aK;clear aH aI aJ aK;clear hb hbox hg) | ((with_reducible refine gate_dst (N := 3) rfl ?_);refine box_event ?hg (N := 3) ?hd (cs := #[vi ay,vi aF,vi ax,vi aG,.slice aP aq.length aQ,.slice aR an.length aS,.slice aT ar.length aU]) (t := 27) ?hr ?_;(case hd => rfl);(case hg => rfl);(case hr => first | (go_simp;done) | (go_simp;rfl));intro af hg iK hbox hb;have aH := mkA (blk_below (g := aa) (o := .cells #[vi al,vi av,vi ao,vi aw,.slice az aj.length aA,.slice aB ai.length aC,.slice aD ak.length aE] 27 (0,0)) Z17x3 hb);have aI := mkA (below_step Z17x0 hb);have aJ := mkA (hbox);have aK := mkA ((Z17x8 : w.heap.size ≤ af));have aY := mkA ((Z17x8 : w.heap.size ≤ af));have aZ := mkA ((Z17x4 : aa ≠ af));have a_ := mkA ((Z17x5 : af ≠ aa));clear ab;clear HB;have ab := aH;have HB := aI;have au := aJ;have bc := aK;have aW := aY;have ag := aZ;have ah := a_;clear aH aI aJ aK aY aZ a_;clear hb hbox hg;have hI := ag.out;have hJ := ah.out;obtain ⟨e9,eB,eC,eD,eE,eF,eG⟩ := cz7 ab.out;obtain ⟨eH,eI,eJ,eK,eL,eM,eN⟩ := fz7 ab.out;obtain ⟨eO,eP,eQ,eR,eS,eT,eU⟩ := cz7 au.out;obtain ⟨eV,eW,eX,eY,eZ,e_,fa⟩ := fz7 au.out))
    go_ret
    exact ⟨Z17x6,Z17x2⟩
  ·rw [if_neg c4] at H
   have c4b0 : (av == aF) = false := beq_eq_false_iff_ne.mpr c4
   have c4b1 : (av != aF) = true := bne_iff_ne.mpr c4
   obtain rfl := Option.some.inj H
   simp only [Option.some.injEq,Prod.mk.injEq] at H
   obtain ⟨rfl⟩ := H
   go_enter Try.func18,Try.ntmps18
   go_wp2_with (first | ((with_reducible refine gate_dst (N := 2) rfl ?_);refine box_event ?hg (N := 2) ?hd (cs := #[vi al,vi av,vi ao,vi aw,.slice az aj.length aA,.slice aB ai.length aC,.slice aD ak.length aE]) (t := 27) ?hr ?_;(case hd => rfl);(case hg => rfl);(case hr => first | (go_simp;done) | (go_simp;rfl));intro aa hg iL hbox hb;have aH := mkA (below_step Z17x1 hb);have aI := mkA (hbox);have aJ := mkA ((Z17x7 : w.heap.size ≤ aa));have aK := mkA ((Z17x7 : w.heap.size ≤ aa));clear HB;have HB := aH;have ab := aI;have aX := aJ;have aV := aK;clear aH aI aJ aK;clear hb hbox hg) | ((with_reducible refine gate_dst (N := 3) rfl ?_);refine box_event ?hg (N := 3) ?hd (cs := #[vi ay,vi aF,vi ax,vi aG,.slice aP aq.length aQ,.slice aR an.length aS,.slice aT ar.length aU]) (t := 27) ?hr ?_;(case hd => rfl);(case hg => rfl);(case hr => first | (go_simp;done) | (go_simp;rfl));intro af hg iM hbox hb;have aH := mkA (blk_below (g := aa) (o := .cells #[vi al,vi av,vi ao,vi aw,.slice az aj.length aA,.slice aB ai.length aC,.slice aD ak.length aE] 27 (0,0)) Z17x3 hb);have aI := mkA (below_step Z17x0 hb);have aJ := mkA (hbox);have aK := mkA ((Z17x8 : w.heap.size ≤ af));have aY := mkA ((Z17x8 : w.heap.size ≤ af));have aZ := mkA ((Z17x4 : aa ≠ af));have a_ := mkA ((Z17x5 : af ≠ aa));clear ab;clear HB;have ab := aH;have HB := aI;have au := aJ;have bc := aK;have aW := aY;have ag := aZ;have ah := a_;clear aH aI aJ aK aY aZ a_;clear hb hbox hg;have hL := ag.out;have hP := ah.out;obtain ⟨fb,fc,fe,ff,fg,fh,fi⟩ := cz7 ab.out;obtain ⟨fj,fk,fl,fm,fp,fq,fs⟩ := fz7 ab.out;obtain ⟨fu,fv,fw,fx,fy,fA,fB⟩ := cz7 au.out;obtain ⟨fC,fD,fE,fF,fG,fH,fI⟩ := fz7 au.out))
   go_ret
   exact ⟨Z17x6,Z17x2⟩
 ·rw [if_neg c3] at H
  have c3b0 : (al == ay) = false := beq_eq_false_iff_ne.mpr c3
  have c3b1 : (al != ay) = true := bne_iff_ne.mpr c3
  obtain rfl := Option.some.inj H
  simp only [Option.some.injEq,Prod.mk.injEq] at H
  obtain ⟨rfl⟩ := H
  go_enter Try.func18,Try.ntmps18
  go_wp2_with (first | ((with_reducible refine gate_dst (N := 2) rfl ?_);refine box_event ?hg (N := 2) ?hd (cs := #[vi al,vi av,vi ao,vi aw,.slice az aj.length aA,.slice aB ai.length aC,.slice aD ak.length aE]) (t := 27) ?hr ?_;(case hd => rfl);(case hg => rfl);(case hr => first | (go_simp;done) | (go_simp;rfl));intro aa hg iN hbox hb;have aH := mkA (below_step Z17x1 hb);have aI := mkA (hbox);have aJ := mkA ((Z17x7 : w.heap.size ≤ aa));have aK := mkA ((Z17x7 : w.heap.size ≤ aa));clear HB;have HB := aH;have ab := aI;have aX := aJ;have aV := aK;clear aH aI aJ aK;clear hb hbox hg) | ((with_reducible refine gate_dst (N := 3) rfl ?_);refine box_event ?hg (N := 3) ?hd (cs := #[vi ay,vi aF,vi ax,vi aG,.slice aP aq.length aQ,.slice aR an.length aS,.slice aT ar.length aU]) (t := 27) ?hr ?_;(case hd => rfl);(case hg => rfl);(case hr => first | (go_simp;done) | (go_simp;rfl));intro af hg iO hbox hb;have aH := mkA (blk_below (g := aa) (o := .cells #[vi al,vi av,vi ao,vi aw,.slice az aj.length aA,.slice aB ai.length aC,.slice aD ak.length aE] 27 (0,0)) Z17x3 hb);have aI := mkA (below_step Z17x0 hb);have aJ := mkA (hbox);have aK := mkA ((Z17x8 : w.heap.size ≤ af));have aY := mkA ((Z17x8 : w.heap.size ≤ af));have aZ := mkA ((Z17x4 : aa ≠ af));have a_ := mkA ((Z17x5 : af ≠ aa));clear ab;clear HB;have ab := aH;have HB := aI;have au := aJ;have bc := aK;have aW := aY;have ag := aZ;have ah := a_;clear aH aI aJ aK aY aZ a_;clear hb hbox hg;have hQ := ag.out;have hS := ah.out;obtain ⟨fJ,fK,fL,fM,fN,fO,fP⟩ := cz7 ab.out;obtain ⟨fQ,fR,fS,fT,fU,fV,fW⟩ := fz7 ab.out;obtain ⟨fX,fY,fZ,f_,ga,gb,gf⟩ := cz7 au.out;obtain ⟨gi,gj,gm,gn,gp,gq,gr⟩ := fz7 au.out))
  go_ret
  exact ⟨Z17x6,Z17x2⟩

end Go.Proofs.Ytdciagkholijlaa.PFnEntries
