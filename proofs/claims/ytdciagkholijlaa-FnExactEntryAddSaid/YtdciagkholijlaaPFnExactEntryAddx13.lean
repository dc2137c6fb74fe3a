-- Written by this session's changed copy of the kit's printer (wip/patch_print.py): not the kit's own print.
import Derived.Test.YtdciagkholijlaaPFnExactEntryAddx0
import Derived.Test.YtdciagkholijlaaPFnExactEntryAddx10
import Derived.Test.YtdciagkholijlaaPFnExactEntryAddx12
namespace Go.Proofs.Ytdciagkholijlaa.PFnExactEntryAdd
open Go.RowKit Go.Proofs.YtdciagkholijlaaW.PrintWords Go.Proofs.YtdciagkholijlaaW.PrintLast Go.Proofs.YtdciagkholijlaaW.PrintMore
attribute [local go_sem] max2_int min2_int max_two min_two max_three min_three max_four min_four   -- for this text's walks alone
set_option linter.unusedVariables false
set_option linter.unusedSimpArgs false
theorem Z13x0 {p : Prop} (h : p := by repeat (first | (with_reducible first | exact HB.out | apply below_alloc | apply pw_below_drewN | apply below_drew1) | exact HB.out)) : p := h
theorem Z13x1 {p : Prop} (h : p := by (try simp only [List.map_toArray, List.map_cons, List.map_nil]); first | done | rfl | (simp only [List.length_drop, List.length_take]; rfl)) : p := h
theorem Z13x2 {p : Prop} (h : p := by repeat (first | (with_reducible first | exact HB.out | apply below_alloc | apply pw_below_drewN | apply below_drew1 | refine below_set ?_ GE330.out) | exact HB.out)) : p := h
theorem Z13x3 {p : Prop} (h : p := by repeat (first | (with_reducible first | exact HB.out | apply below_alloc | apply pw_below_drewN | apply below_drew1 | refine below_set ?_ GE326.out) | exact HB.out)) : p := h
theorem Z13x4 {p : Prop} (h : p := by first | rfl | (simp [errW_none, errW_some] <;> rfl) | (simp [*, errW_none, errW_some] <;> rfl)) : p := h
theorem Z13x5 {p : Prop} (h : p := by repeat (first | exact (Kd.C_below HR0_4.out HB.out) | (with_reducible refine Kd.C_alloc ?_ _) | (with_reducible refine Kd.C_drewN ?_ _) | (with_reducible refine Kd.C_drew ?_))) : p := h
theorem Z13x6 {p : Prop} (h : p := by repeat (first | exact Drawn0.refl _ | apply Drawn0.step)) : p := h
theorem Z13x7 {p : Prop} (h : p := by first | rfl | (simp; done) | (simp [*]; done)) : p := h
theorem Z13x8 {p : Prop} (h : p := by rw [hg]; exact (below_size Z13x0)) : p := h
theorem Z13x9 {p : Prop} (h : p := by repeat (first | exact (Kd.C_below HR0_2.out HB.out) | (with_reducible refine Kd.C_alloc ?_ _) | (with_reducible refine Kd.C_drewN ?_ _) | (with_reducible refine Kd.C_drew ?_))) : p := h
theorem Z13x10 {p : Prop} (h : p := by repeat (first | exact (Kd.C_below HR0_5.out Z13x3) | (with_reducible refine Kd.C_alloc ?_ _) | (with_reducible refine Kd.C_drewN ?_ _) | (with_reducible refine Kd.C_drew ?_))) : p := h

theorem spec_l1Min.still (a b r : Int) (w : World) (h : spec_l1Min.f a b = some r) : Calls Try.prog 108 #[.int .i64 a, .int .i64 b] w fun e w' => e = .returned (.int .i64 r) ∧ w' = w := by
 unfold spec_l1Min.f at h
 by_cases c : a < b
 ·rw [if_pos c] at h
  obtain rfl := Option.some.inj h
  have c1 : decide (a < b) = true := decide_eq_true c
  clear h c
  go_enter Try.func108, Try.ntmps108
  go_wp2
  go_ret
  exact ⟨rfl, rfl⟩
 ·rw [if_neg c] at h
  obtain rfl := Option.some.inj h
  have c1 : decide (a < b) = false := decide_eq_false c
  clear h c
  go_enter Try.func108, Try.ntmps108
  go_wp2
  go_ret
  exact ⟨rfl, rfl⟩
theorem spec_l1Max.still (a b r : Int) (w : World) (h : spec_l1Max.f a b = some r) : Calls Try.prog 109 #[.int .i64 a, .int .i64 b] w fun e w' => e = .returned (.int .i64 r) ∧ w' = w := by
 unfold spec_l1Max.f at h
 by_cases c : a > b
 ·rw [if_pos c] at h
  obtain rfl := Option.some.inj h
  have c1 : decide (b < a) = true := decide_eq_true c
  clear h c
  go_enter Try.func109, Try.ntmps109
  go_wp2
  go_ret
  exact ⟨rfl, rfl⟩
 ·rw [if_neg c] at h
  obtain rfl := Option.some.inj h
  have c1 : decide (b < a) = false := decide_eq_false c
  clear h c
  go_enter Try.func109, Try.ntmps109
  go_wp2
  go_ret
  exact ⟨rfl, rfl⟩
theorem spec_l2Clip.still (a b r : Int) (w : World) (h : spec_l2Clip.f a b = some r) : Calls Try.prog 117 #[.int .i64 a, .int .i64 b] w fun e w' => e = .returned (.int .i64 r) ∧ w' = w := by
 obtain ⟨t, h1, h2⟩ := Option.bind_eq_some_iff.mp h
 obtain ⟨t', h3, h4⟩ := Option.bind_eq_some_iff.mp h2
 obtain rfl := Option.some.inj h4
 have H1 := Aside0.mk h1
 have H3 := Aside0.mk h3
 clear h h1 h2 h3 h4
 go_enter Try.func117, Try.ntmps117
 go_wp2_with fail
 refine (spec_l1Min.still _ _ _ _ H1.out).mono ?_
 rintro e w' ⟨rfl, rfl⟩
 go_wp2_with fail
 refine (spec_l1Max.still _ _ _ _ H3.out).mono ?_
 rintro e w' ⟨rfl, rfl⟩
 go_wp2
 go_ret
 exact ⟨rfl, rfl⟩
theorem spec_Add.still (a b r : Int) (w : World) (h : spec_Add.f a b = some r) : Calls Try.prog 107 #[.int .i64 a, .int .i64 b] w fun e w' => e = .returned (.int .i64 r) ∧ w' = w := by
 obtain ⟨t, h1, h2⟩ := Option.bind_eq_some_iff.mp h
 obtain ⟨t', h3, h4⟩ := Option.bind_eq_some_iff.mp h2
 obtain ⟨t'', h5, h6⟩ := Option.bind_eq_some_iff.mp h4
 obtain rfl := Option.some.inj h6
 have H1 := Aside0.mk h1
 have H3 := Aside0.mk h3
 have H5 := Aside0.mk h5
 clear h h1 h2 h3 h4 h5 h6
 go_enter Try.func107, Try.ntmps107
 go_wp2_with fail
 refine (spec_l2Clip.still _ _ _ _ H1.out).mono ?_
 rintro e w' ⟨rfl, rfl⟩
 go_wp2_with fail
 refine (spec_l2Clip.still _ _ _ _ H3.out).mono ?_
 rintro e w' ⟨rfl, rfl⟩
 go_wp2_with fail
 refine (spec_l1Min.still _ _ _ _ H5.out).mono ?_
 rintro e w' ⟨rfl, rfl⟩
 go_wp2
 go_ret
 exact ⟨rfl, rfl⟩
theorem rows2 {w : World} {A : Option Addr} {c : Nat} {R : List (List Int)} (h : (Kd.slice 3 (Kd.int .i64)).C w A R.length R) (hR : R.length = 2) :
  ∃ ad B0 e0 B1 e1, A = some ad ∧ w.cell? (ad.add 0) = some (.slice B0 (R.getD 0 []).length e0) ∧ w.cell? (ad.add 1) = some (.slice B1 (R.getD 1 []).length e1) ∧ (R.getD 0 []).length ≤ e0 ∧ (R.getD 1 []).length ≤ e1 ∧ (Kd.int .i64).C w B0 (R.getD 0 []).length (R.getD 0 []) ∧ (Kd.int .i64).C w B1 (R.getD 1 []).length (R.getD 1 []) := by
 have key : ∀ i : Nat, i < 2 → ∃ ad B e, A = some ad ∧ w.cell? (ad.add i) = some (.slice B (R.getD i []).length e) ∧ (R.getD i []).length ≤ e ∧ (Kd.int .i64).C w B (R.getD i []).length (R.getD i []) := by
  intro i hi
  obtain ⟨ad, c, e, _, hK, hc⟩ := Kd.C_get h ([] : List Int) (i : Int) (by omega) (by omega)
  obtain ⟨A0, c0, rfl, hl, hC⟩ := hK
  have h1 := hc 0 _ rfl
  have hs : (Kd.slice 3 (Kd.int .i64)).sz = 1 := rfl
  rw [Int.toNat_natCast] at h1 hC hl
  rw [hs, Nat.mul_one, Nat.add_zero] at h1
  exact ⟨ad, A0, c0, e, h1, hl, hC⟩
 obtain ⟨ad, B0, e0, ha, h1, h2, h3⟩ := key 0 (by omega)
 obtain ⟨ad', B1, e1, ha', h4, h5, h6⟩ := key 1 (by omega)
 rw [ha] at ha'
 injection ha' with ha'
 subst ha'
 exact ⟨ad, B0, e0, B1, e1, ha, h1, h4, h2, h5, h3, h6⟩
theorem lit_S {W : World} {base p0 p1 gl : Nat} {c0 c1 : Nat} {v0 v1 : Value} {l0 l1 : List Int} {ok : Nat → Prop} (e0 : v0 = .slice (some ⟨p0, 0, none⟩) l0.length c0) (e1 : v1 = .slice (some ⟨p1, 0, none⟩) l1.length c1)
  (hg : W.heap[gl]? = some (.cells #[v0, v1] 24 (0, 0))) (h0 : Kd.R (Kd.int .i64) 3 W base (fun k => k = p0) v0 l0) (h1 : Kd.R (Kd.int .i64) 3 W base (fun k => k = p1) v1 l1)
  (hn : p0 ≠ p1 ∧ p0 ≠ gl ∧ p1 ≠ gl) (hb : base ≤ gl) (ho : ok p0 ∧ ok p1 ∧ ok gl) : Kd.S (Kd.slice 3 (Kd.int .i64)) 24 W base ok (.slice (some ⟨gl, 0, none⟩) 2 2) [l0, l1] := by
 have hM : ∀ (j : Nat) (x : List Int), [l0, l1][j]? = some x → (Kd.slice 3 (Kd.int .i64)).M W base (fun k => k = (if j = 0 then p0 else p1)) x (([v0, v1].drop (j * 1)).take 1) := by
  intro j x hj
  match j, hj with
  | 0, hj => simp at hj; subst hj; exact ⟨_, rfl, h0⟩
  | 1, hj => simp at hj; subst hj; exact ⟨_, rfl, h1⟩
  | j + 2, hj => simp at hj
 obtain ⟨f, hr⟩ := Kd.reps_tag (d := Kd.slice 3 (Kd.int .i64)) (w := W) (base := base) (ok := fun k => ok k ∧ some k ≠ (Value.slice (some ⟨gl, 0, none⟩) 2 2).ownBlock) (xs := [l0, l1]) (inner := [v0, v1])
  (fun j k => k = (if j = 0 then p0 else p1) ∧ j < 2) (fun i j k hi hj => by
   obtain ⟨hi, hi2⟩ := hi
   obtain ⟨hj, hj2⟩ := hj
   rw [hi] at hj
   by_cases e1 : i = 0 <;> by_cases e2 : j = 0 <;> simp [e1, e2] at hj <;> omega) (fun j k hk => by
   obtain ⟨hk, _⟩ := hk
   subst hk
   simp only [Value.ownBlock, Option.map_some, ne_eq, Option.some.injEq]
   split
   ·exact ⟨ho.1, hn.2.1⟩
   ·exact ⟨ho.2.1, hn.2.2⟩) rfl (fun j x hj => by
   have hlt : j < 2 := (List.getElem?_eq_some_iff.1 hj).1
   exact (Kd.slice 3 (Kd.int .i64)).M_mono (fun k hk => ⟨hk, hlt⟩) (hM j x hj))
 exact ⟨f, fun k hk => by
  have : gl = k := by simpa [Value.ownBlock] using hk
  subst this
  exact ho.2.2, _, ⟨rfl, .inr ⟨gl, 2, _, rfl, hb, hg, Nat.le_refl _, by simp [maxLen], rfl, rfl⟩⟩, hr⟩
structure L3F (w W : World) (A0 B0 : Array Value) : Prop where
 a : Bx W w.heap.size 27 A0
 b : Bx W (w.heap.size + 1) 27 B0
 o : Bx W (w.heap.size + 2) 27 #[.int .i64 0, .int .i64 0, .int .i64 0, .int .i64 0, .slice none 0 0, .slice none 0 0, .slice none 0 0]
 l : Below w.heap.size w W
theorem L3F.below {w W W' : World} {A0 B0 : Array Value} (f : L3F w W A0 B0) (hb : Below W.heap.size W W') : L3F w W' A0 B0 := ⟨f.a.below hb, f.b.below hb, f.o.below hb, below_step f.l hb⟩
theorem L3F.kp {w W W' : World} {A0 B0 : Array Value} {g : Nat} (f : L3F w W A0 B0) (k : Kp W W' g (g + 1)) (h : w.heap.size + 2 < g) : L3F w W' A0 B0 :=
 ⟨f.a.kp k (.inl (by omega)), f.b.kp k (.inl (by omega)), f.o.kp k (.inl h), below_kp f.l k (by omega) f.l.size⟩
theorem row_to {w6 W : World} {b b0 g n c : Nat} {ok : Nat → Prop} {l : List Int} (J : Kd.R (Kd.int .i64) 3 w6 b ok (.slice (some ⟨g, 0, none⟩) n c) l) (hb : Below w6.heap.size w6 W) (h : b0 ≤ b) : Kd.R (Kd.int .i64) 3 W b0 (fun k => k = g) (.slice (some ⟨g, 0, none⟩) n c) l :=
 Kd.R_below (Kd.R_lower (Kd.R_reok rfl J (fun k hk => by
  have : g = k := by simpa [Value.ownBlock] using hk
  exact this.symm)) h) hb
theorem sz_alloc (w : World) (o : Obj) : w.heap.size ≤ (w.alloc o).heap.size := by simp
theorem sz_alloc1 {w : World} {o : Obj} {n : Nat} (h : (w.alloc o).heap.size ≤ n) : w.heap.size + 1 ≤ n := by simpa using h
structure L3I (w wc : World) (AA BB : Array Value) (g5 n0 : Nat) (cs : Array Value) (vh vr vz : Value) (HZ G : List Int) (ZZ : List (List Int)) : Prop where
 F : L3F w wc AA BB
 X : Bx wc g5 27 cs
 H : Kd.R (Kd.int .i64) 3 wc (w.heap.size + 3) (fun k => k ≠ g5 ∧ k < n0 ∧ w.heap.size + 2 < k) vh HZ
 Z : Kd.S (Kd.slice 3 (Kd.int .i64)) 24 wc (w.heap.size + 3) (fun k => k ≠ g5 ∧ k < n0 ∧ w.heap.size + 2 < k ∧ some k ≠ vh.ownBlock) vz ZZ
 G : Kd.R (Kd.int .i64) 3 wc (w.heap.size + 3) (fun k => n0 ≤ k) vr G
 lo : w.heap.size + 2 < g5
 hi : g5 < n0
 n : n0 ≤ wc.heap.size
theorem l3_fin {w W wc : World} {AA BB : Array Value} {g5 gh g6 g7 gl ch c6 c7 : Nat} {HZ Z0 Z1 : List Int} {CA CS LM HM : Int} (F : L3F w wc AA BB)
  (X : Bx wc g5 27 #[.int .i64 CA, .int .i64 CS, .int .i64 LM, .int .i64 HM, .slice (some ⟨gh, 0, none⟩) HZ.length ch, .slice none 0 0, .slice (some ⟨gl, 0, none⟩) 2 2])
  (hm : ∀ k, k < W.heap.size → k ≠ g5 → wc.heap[k]? = W.heap[k]?) (hs : W.heap.size ≤ wc.heap.size)
  (J5 : Kd.R (Kd.int .i64) 3 W (w.heap.size + 3) (fun k => k = gh) (.slice (some ⟨gh, 0, none⟩) HZ.length ch) HZ)
  (J6 : Kd.R (Kd.int .i64) 3 W (w.heap.size + 3) (fun k => k = g6) (.slice (some ⟨g6, 0, none⟩) Z0.length c6) Z0)
  (J7 : Kd.R (Kd.int .i64) 3 W (w.heap.size + 3) (fun k => k = g7) (.slice (some ⟨g7, 0, none⟩) Z1.length c7) Z1)
  (hl : W.heap[gl]? = some (.cells #[.slice (some ⟨g6, 0, none⟩) Z0.length c6, .slice (some ⟨g7, 0, none⟩) Z1.length c7] 24 (0, 0)))
  (hn : (gh ≠ g6 ∧ gh ≠ g7 ∧ gh ≠ gl ∧ g6 ≠ g7 ∧ g6 ≠ gl ∧ g7 ≠ gl) ∧ (gh ≠ g5 ∧ g6 ≠ g5 ∧ g7 ≠ g5 ∧ gl ≠ g5) ∧ (gh < W.heap.size ∧ g6 < W.heap.size ∧ g7 < W.heap.size ∧ gl < W.heap.size) ∧ (w.heap.size + 2 < gh ∧ w.heap.size + 2 < g6 ∧ w.heap.size + 2 < g7 ∧ w.heap.size + 2 < gl) ∧ w.heap.size + 2 < g5) :
  L3I w wc AA BB g5 wc.heap.size #[.int .i64 CA, .int .i64 CS, .int .i64 LM, .int .i64 HM, .slice (some ⟨gh, 0, none⟩) HZ.length ch, .slice none 0 0, .slice (some ⟨gl, 0, none⟩) 2 2] (.slice (some ⟨gh, 0, none⟩) HZ.length ch) (.slice none 0 0) (.slice (some ⟨gl, 0, none⟩) 2 2) HZ [] [Z0, Z1] := by
 obtain ⟨⟨n1, n2, n3, n4, n5, n6⟩, ⟨m1, m2, m3, m4⟩, ⟨l1, l2, l3, l4⟩, ⟨p1, p2, p3, p4⟩, h5⟩ := hn
 have hb : w.heap.size + 3 ≤ gl := by omega
 have hX := X.lt
 refine ⟨F, X, ?_, ?_, Kd.R_nil _ _ _ _ _, h5, hX, Nat.le_refl _⟩
 ·exact Kd.R_mono (Kd.R_move J5 (fun k hk => hm k (by omega) (by omega))) (fun k hk => ⟨by omega, by omega, by omega⟩)
 ·have s := lit_S (ok := fun k => k = g6 ∨ k = g7 ∨ k = gl) rfl rfl hl J6 J7 ⟨n4, n5, n6⟩ hb ⟨.inl rfl, .inr (.inl rfl), .inr (.inr rfl)⟩
  refine Kd.S_mono (Kd.S_move s (fun k hk => hm k (by omega) (by omega))) (fun k hk => ⟨by omega, by omega, by omega, fun e => ?_⟩)
  have : k = gh := by simpa [Value.ownBlock] using e
  omega
theorem sz_al' (w : World) (o : Obj) : (w.alloc o).heap.size = w.heap.size + 1 := by simp
theorem l3_finC {w w7 : World} {AA BB : Array Value} {g5 q5 g6 q6 g7 q7 : Nat} {HZ Z0 Z1 : List Int} {CA CS LM HM : Int} (F : L3F w w7 AA BB) {gB : Nat} (Y : Bx w7 gB 27 #[.int .i64 0, .int .i64 0, .int .i64 0, .int .i64 0, .slice none 0 0, .slice none 0 0, .slice none 0 0]) (J5 : Kd.R (Kd.int .i64) 3 w7 (w.heap.size + 3) (fun k => k = g5) (.slice (some ⟨g5, 0, none⟩) HZ.length q5) HZ) (J6 : Kd.R (Kd.int .i64) 3 w7 (w.heap.size + 3) (fun k => k = g6) (.slice (some ⟨g6, 0, none⟩) Z0.length q6) Z0) (J7 : Kd.R (Kd.int .i64) 3 w7 (w.heap.size + 3) (fun k => k = g7) (.slice (some ⟨g7, 0, none⟩) Z1.length q7) Z1) (hn : w.heap.size + 2 < gB ∧ g5 ≠ gB ∧ g6 ≠ gB ∧ g7 ≠ gB ∧ g5 ≠ g6 ∧ g5 ≠ g7 ∧ g6 ≠ g7 ∧ g5 < w7.heap.size ∧ g6 < w7.heap.size ∧ g7 < w7.heap.size ∧ w.heap.size + 2 < g5 ∧ w.heap.size + 2 < g6 ∧ w.heap.size + 2 < g7 ∧ w.heap.size + 2 < w7.heap.size) : L3I w (((((((((w7.alloc (.cells #[.slice (some ⟨g6, 0, none⟩) Z0.length q6, .slice (some ⟨g7, 0, none⟩) Z1.length q7] 24)).setCell ⟨gB, 0, none⟩ (.int .i64 CA)).setCell ⟨gB, 1, none⟩ (.int .i64 CS)).setCell ⟨gB, 2, none⟩ (.int .i64 LM)).setCell ⟨gB, 3, none⟩ (.int .i64 HM)).setCell ⟨gB, 4, none⟩ (.slice (some ⟨g5, 0, none⟩) HZ.length q5)).setCell ⟨gB, 5, none⟩ (.slice none 0 0)).setCell ⟨gB, 6, none⟩ (.slice (some ⟨w7.heap.size, 0, none⟩) 2 2))) AA BB (gB) (((((((((w7.alloc (.cells #[.slice (some ⟨g6, 0, none⟩) Z0.length q6, .slice (some ⟨g7, 0, none⟩) Z1.length q7] 24)).setCell ⟨gB, 0, none⟩ (.int .i64 CA)).setCell ⟨gB, 1, none⟩ (.int .i64 CS)).setCell ⟨gB, 2, none⟩ (.int .i64 LM)).setCell ⟨gB, 3, none⟩ (.int .i64 HM)).setCell ⟨gB, 4, none⟩ (.slice (some ⟨g5, 0, none⟩) HZ.length q5)).setCell ⟨gB, 5, none⟩ (.slice none 0 0)).setCell ⟨gB, 6, none⟩ (.slice (some ⟨w7.heap.size, 0, none⟩) 2 2))).heap.size #[.int .i64 CA, .int .i64 CS, .int .i64 LM, .int .i64 HM, .slice (some ⟨g5, 0, none⟩) HZ.length q5, .slice none 0 0, .slice (some ⟨w7.heap.size, 0, none⟩) 2 2] (.slice (some ⟨g5, 0, none⟩) HZ.length q5) (.slice none 0 0) (.slice (some ⟨w7.heap.size, 0, none⟩) 2 2) HZ [] [Z0, Z1] := by
 have hk := (Y.below (below_alloc (Below.refl _ w7) (.cells #[.slice (some ⟨g6, 0, none⟩) Z0.length q6, .slice (some ⟨g7, 0, none⟩) Z1.length q7] 24))).fill (.int .i64 CA) (.int .i64 CS) (.int .i64 LM) (.int .i64 HM) (.slice (some ⟨g5, 0, none⟩) HZ.length q5) (.slice none 0 0) (.slice (some ⟨w7.heap.size, 0, none⟩) 2 2)
 have e := sz_al' w7 (.cells #[.slice (some ⟨g6, 0, none⟩) Z0.length q6, .slice (some ⟨g7, 0, none⟩) Z1.length q7] 24)
 have y := Y.lt
 exact l3_fin (W := w7.alloc (.cells #[.slice (some ⟨g6, 0, none⟩) Z0.length q6, .slice (some ⟨g7, 0, none⟩) Z1.length q7] 24)) (L3F.kp (F.below (below_alloc (Below.refl _ w7) (.cells #[.slice (some ⟨g6, 0, none⟩) Z0.length q6, .slice (some ⟨g7, 0, none⟩) Z1.length q7] 24))) hk.2 (by omega)) hk.1 (fun k h1 h2 => hk.2.kept.2 k h1 (by omega)) hk.2.kept.1 (Kd.R_below J5 (below_alloc (Below.refl _ w7) (.cells #[.slice (some ⟨g6, 0, none⟩) Z0.length q6, .slice (some ⟨g7, 0, none⟩) Z1.length q7] 24))) (Kd.R_below J6 (below_alloc (Below.refl _ w7) (.cells #[.slice (some ⟨g6, 0, none⟩) Z0.length q6, .slice (some ⟨g7, 0, none⟩) Z1.length q7] 24))) (Kd.R_below J7 (below_alloc (Below.refl _ w7) (.cells #[.slice (some ⟨g6, 0, none⟩) Z0.length q6, .slice (some ⟨g7, 0, none⟩) Z1.length q7] 24))) (blk_new _ _) (by have := F.l.size; omega)
theorem l3_finA {w w7 : World} {AA BB : Array Value} {g5 q5 g6 q6 g7 q7 : Nat} {HZ Z0 Z1 : List Int} {CA CS LM HM : Int} (F : L3F w w7 AA BB) (J5 : Kd.R (Kd.int .i64) 3 w7 (w.heap.size + 3) (fun k => k = g5) (.slice (some ⟨g5, 0, none⟩) HZ.length q5) HZ) (J6 : Kd.R (Kd.int .i64) 3 w7 (w.heap.size + 3) (fun k => k = g6) (.slice (some ⟨g6, 0, none⟩) Z0.length q6) Z0) (J7 : Kd.R (Kd.int .i64) 3 w7 (w.heap.size + 3) (fun k => k = g7) (.slice (some ⟨g7, 0, none⟩) Z1.length q7) Z1) (hn : w.heap.size + 2 < w7.heap.size + 1 ∧ g5 ≠ w7.heap.size + 1 ∧ g6 ≠ w7.heap.size + 1 ∧ g7 ≠ w7.heap.size + 1 ∧ g5 ≠ g6 ∧ g5 ≠ g7 ∧ g6 ≠ g7 ∧ g5 < w7.heap.size ∧ g6 < w7.heap.size ∧ g7 < w7.heap.size ∧ w.heap.size + 2 < g5 ∧ w.heap.size + 2 < g6 ∧ w.heap.size + 2 < g7 ∧ w.heap.size + 2 < w7.heap.size) : L3I w (((w7.alloc (.cells #[.slice (some ⟨g6, 0, none⟩) Z0.length q6, .slice (some ⟨g7, 0, none⟩) Z1.length q7] 24)).alloc (.cells #[.int .i64 CA, .int .i64 CS, .int .i64 LM, .int .i64 HM, .slice (some ⟨g5, 0, none⟩) HZ.length q5, .slice none 0 0, .slice (some ⟨w7.heap.size, 0, none⟩) 2 2] 27))) AA BB (w7.heap.size + 1) (((w7.alloc (.cells #[.slice (some ⟨g6, 0, none⟩) Z0.length q6, .slice (some ⟨g7, 0, none⟩) Z1.length q7] 24)).alloc (.cells #[.int .i64 CA, .int .i64 CS, .int .i64 LM, .int .i64 HM, .slice (some ⟨g5, 0, none⟩) HZ.length q5, .slice none 0 0, .slice (some ⟨w7.heap.size, 0, none⟩) 2 2] 27))).heap.size #[.int .i64 CA, .int .i64 CS, .int .i64 LM, .int .i64 HM, .slice (some ⟨g5, 0, none⟩) HZ.length q5, .slice none 0 0, .slice (some ⟨w7.heap.size, 0, none⟩) 2 2] (.slice (some ⟨g5, 0, none⟩) HZ.length q5) (.slice none 0 0) (.slice (some ⟨w7.heap.size, 0, none⟩) 2 2) HZ [] [Z0, Z1] := by
 have e := sz_al' w7 (.cells #[.slice (some ⟨g6, 0, none⟩) Z0.length q6, .slice (some ⟨g7, 0, none⟩) Z1.length q7] 24)
 have e2 := sz_al' (w7.alloc (.cells #[.slice (some ⟨g6, 0, none⟩) Z0.length q6, .slice (some ⟨g7, 0, none⟩) Z1.length q7] 24)) (.cells #[.int .i64 CA, .int .i64 CS, .int .i64 LM, .int .i64 HM, .slice (some ⟨g5, 0, none⟩) HZ.length q5, .slice none 0 0, .slice (some ⟨w7.heap.size, 0, none⟩) 2 2] 27)
 have X := Bx.new (w7.alloc (.cells #[.slice (some ⟨g6, 0, none⟩) Z0.length q6, .slice (some ⟨g7, 0, none⟩) Z1.length q7] 24)) 27 #[.int .i64 CA, .int .i64 CS, .int .i64 LM, .int .i64 HM, .slice (some ⟨g5, 0, none⟩) HZ.length q5, .slice none 0 0, .slice (some ⟨w7.heap.size, 0, none⟩) 2 2]
 rw [e] at X
 exact l3_fin (W := (w7.alloc (.cells #[.slice (some ⟨g6, 0, none⟩) Z0.length q6, .slice (some ⟨g7, 0, none⟩) Z1.length q7] 24))) ((F.below (below_alloc (Below.refl _ w7) (.cells #[.slice (some ⟨g6, 0, none⟩) Z0.length q6, .slice (some ⟨g7, 0, none⟩) Z1.length q7] 24))).below (below_alloc (Below.refl _ (w7.alloc (.cells #[.slice (some ⟨g6, 0, none⟩) Z0.length q6, .slice (some ⟨g7, 0, none⟩) Z1.length q7] 24))) (.cells #[.int .i64 CA, .int .i64 CS, .int .i64 LM, .int .i64 HM, .slice (some ⟨g5, 0, none⟩) HZ.length q5, .slice none 0 0, .slice (some ⟨w7.heap.size, 0, none⟩) 2 2] 27))) X (fun k h1 h2 => (below_alloc (Below.refl _ (w7.alloc (.cells #[.slice (some ⟨g6, 0, none⟩) Z0.length q6, .slice (some ⟨g7, 0, none⟩) Z1.length q7] 24))) (.cells #[.int .i64 CA, .int .i64 CS, .int .i64 LM, .int .i64 HM, .slice (some ⟨g5, 0, none⟩) HZ.length q5, .slice none 0 0, .slice (some ⟨w7.heap.size, 0, none⟩) 2 2] 27)).block k h1) (by omega) (Kd.R_below J5 (below_alloc (Below.refl _ w7) (.cells #[.slice (some ⟨g6, 0, none⟩) Z0.length q6, .slice (some ⟨g7, 0, none⟩) Z1.length q7] 24))) (Kd.R_below J6 (below_alloc (Below.refl _ w7) (.cells #[.slice (some ⟨g6, 0, none⟩) Z0.length q6, .slice (some ⟨g7, 0, none⟩) Z1.length q7] 24))) (Kd.R_below J7 (below_alloc (Below.refl _ w7) (.cells #[.slice (some ⟨g6, 0, none⟩) Z0.length q6, .slice (some ⟨g7, 0, none⟩) Z1.length q7] 24))) (blk_new _ _) (by have := F.l.size; omega)
theorem l3_finB {w w7 : World} {AA BB : Array Value} {g5 q5 g6 q6 g7 q7 : Nat} {HZ Z0 Z1 : List Int} {CA CS LM HM : Int} (F : L3F w w7 AA BB) (J5 : Kd.R (Kd.int .i64) 3 w7 (w.heap.size + 3) (fun k => k = g5) (.slice (some ⟨g5, 0, none⟩) HZ.length q5) HZ) (J6 : Kd.R (Kd.int .i64) 3 w7 (w.heap.size + 3) (fun k => k = g6) (.slice (some ⟨g6, 0, none⟩) Z0.length q6) Z0) (J7 : Kd.R (Kd.int .i64) 3 w7 (w.heap.size + 3) (fun k => k = g7) (.slice (some ⟨g7, 0, none⟩) Z1.length q7) Z1) (hn : w.heap.size + 2 < w7.heap.size ∧ g5 ≠ w7.heap.size ∧ g6 ≠ w7.heap.size ∧ g7 ≠ w7.heap.size ∧ g5 ≠ g6 ∧ g5 ≠ g7 ∧ g6 ≠ g7 ∧ g5 < w7.heap.size ∧ g6 < w7.heap.size ∧ g7 < w7.heap.size ∧ w.heap.size + 2 < g5 ∧ w.heap.size + 2 < g6 ∧ w.heap.size + 2 < g7 ∧ w.heap.size + 2 < w7.heap.size) : L3I w (((w7.alloc (.cells #[.int .i64 CA, .int .i64 CS, .int .i64 LM, .int .i64 HM, .slice (some ⟨g5, 0, none⟩) HZ.length q5, .slice none 0 0, .slice (some ⟨w7.heap.size + 1, 0, none⟩) 2 2] 27)).alloc (.cells #[.slice (some ⟨g6, 0, none⟩) Z0.length q6, .slice (some ⟨g7, 0, none⟩) Z1.length q7] 24))) AA BB (w7.heap.size) (((w7.alloc (.cells #[.int .i64 CA, .int .i64 CS, .int .i64 LM, .int .i64 HM, .slice (some ⟨g5, 0, none⟩) HZ.length q5, .slice none 0 0, .slice (some ⟨w7.heap.size + 1, 0, none⟩) 2 2] 27)).alloc (.cells #[.slice (some ⟨g6, 0, none⟩) Z0.length q6, .slice (some ⟨g7, 0, none⟩) Z1.length q7] 24))).heap.size #[.int .i64 CA, .int .i64 CS, .int .i64 LM, .int .i64 HM, .slice (some ⟨g5, 0, none⟩) HZ.length q5, .slice none 0 0, .slice (some ⟨w7.heap.size + 1, 0, none⟩) 2 2] (.slice (some ⟨g5, 0, none⟩) HZ.length q5) (.slice none 0 0) (.slice (some ⟨w7.heap.size + 1, 0, none⟩) 2 2) HZ [] [Z0, Z1] := by
 have e := sz_al' w7 (.cells #[.int .i64 CA, .int .i64 CS, .int .i64 LM, .int .i64 HM, .slice (some ⟨g5, 0, none⟩) HZ.length q5, .slice none 0 0, .slice (some ⟨w7.heap.size + 1, 0, none⟩) 2 2] 27)
 have e2 := sz_al' (w7.alloc (.cells #[.int .i64 CA, .int .i64 CS, .int .i64 LM, .int .i64 HM, .slice (some ⟨g5, 0, none⟩) HZ.length q5, .slice none 0 0, .slice (some ⟨w7.heap.size + 1, 0, none⟩) 2 2] 27)) (.cells #[.slice (some ⟨g6, 0, none⟩) Z0.length q6, .slice (some ⟨g7, 0, none⟩) Z1.length q7] 24)
 have hl := blk_new (w7.alloc (.cells #[.int .i64 CA, .int .i64 CS, .int .i64 LM, .int .i64 HM, .slice (some ⟨g5, 0, none⟩) HZ.length q5, .slice none 0 0, .slice (some ⟨w7.heap.size + 1, 0, none⟩) 2 2] 27)) (.cells #[.slice (some ⟨g6, 0, none⟩) Z0.length q6, .slice (some ⟨g7, 0, none⟩) Z1.length q7] 24)
 rw [e] at hl
 exact l3_fin (W := ((w7.alloc (.cells #[.int .i64 CA, .int .i64 CS, .int .i64 LM, .int .i64 HM, .slice (some ⟨g5, 0, none⟩) HZ.length q5, .slice none 0 0, .slice (some ⟨w7.heap.size + 1, 0, none⟩) 2 2] 27)).alloc (.cells #[.slice (some ⟨g6, 0, none⟩) Z0.length q6, .slice (some ⟨g7, 0, none⟩) Z1.length q7] 24))) ((F.below (below_alloc (Below.refl _ w7) (.cells #[.int .i64 CA, .int .i64 CS, .int .i64 LM, .int .i64 HM, .slice (some ⟨g5, 0, none⟩) HZ.length q5, .slice none 0 0, .slice (some ⟨w7.heap.size + 1, 0, none⟩) 2 2] 27))).below (below_alloc (Below.refl _ (w7.alloc (.cells #[.int .i64 CA, .int .i64 CS, .int .i64 LM, .int .i64 HM, .slice (some ⟨g5, 0, none⟩) HZ.length q5, .slice none 0 0, .slice (some ⟨w7.heap.size + 1, 0, none⟩) 2 2] 27))) (.cells #[.slice (some ⟨g6, 0, none⟩) Z0.length q6, .slice (some ⟨g7, 0, none⟩) Z1.length q7] 24))) ((Bx.new w7 27 #[.int .i64 CA, .int .i64 CS, .int .i64 LM, .int .i64 HM, .slice (some ⟨g5, 0, none⟩) HZ.length q5, .slice none 0 0, .slice (some ⟨w7.heap.size + 1, 0, none⟩) 2 2]).below (below_alloc (Below.refl _ (w7.alloc (.cells #[.int .i64 CA, .int .i64 CS, .int .i64 LM, .int .i64 HM, .slice (some ⟨g5, 0, none⟩) HZ.length q5, .slice none 0 0, .slice (some ⟨w7.heap.size + 1, 0, none⟩) 2 2] 27))) (.cells #[.slice (some ⟨g6, 0, none⟩) Z0.length q6, .slice (some ⟨g7, 0, none⟩) Z1.length q7] 24))) (fun k h1 h2 => rfl) (Nat.le_refl _) (Kd.R_below J5 (below_step (below_alloc (Below.refl _ w7) (.cells #[.int .i64 CA, .int .i64 CS, .int .i64 LM, .int .i64 HM, .slice (some ⟨g5, 0, none⟩) HZ.length q5, .slice none 0 0, .slice (some ⟨w7.heap.size + 1, 0, none⟩) 2 2] 27)) (below_alloc (Below.refl _ (w7.alloc (.cells #[.int .i64 CA, .int .i64 CS, .int .i64 LM, .int .i64 HM, .slice (some ⟨g5, 0, none⟩) HZ.length q5, .slice none 0 0, .slice (some ⟨w7.heap.size + 1, 0, none⟩) 2 2] 27))) (.cells #[.slice (some ⟨g6, 0, none⟩) Z0.length q6, .slice (some ⟨g7, 0, none⟩) Z1.length q7] 24)))) (Kd.R_below J6 (below_step (below_alloc (Below.refl _ w7) (.cells #[.int .i64 CA, .int .i64 CS, .int .i64 LM, .int .i64 HM, .slice (some ⟨g5, 0, none⟩) HZ.length q5, .slice none 0 0, .slice (some ⟨w7.heap.size + 1, 0, none⟩) 2 2] 27)) (below_alloc (Below.refl _ (w7.alloc (.cells #[.int .i64 CA, .int .i64 CS, .int .i64 LM, .int .i64 HM, .slice (some ⟨g5, 0, none⟩) HZ.length q5, .slice none 0 0, .slice (some ⟨w7.heap.size + 1, 0, none⟩) 2 2] 27))) (.cells #[.slice (some ⟨g6, 0, none⟩) Z0.length q6, .slice (some ⟨g7, 0, none⟩) Z1.length q7] 24)))) (Kd.R_below J7 (below_step (below_alloc (Below.refl _ w7) (.cells #[.int .i64 CA, .int .i64 CS, .int .i64 LM, .int .i64 HM, .slice (some ⟨g5, 0, none⟩) HZ.length q5, .slice none 0 0, .slice (some ⟨w7.heap.size + 1, 0, none⟩) 2 2] 27)) (below_alloc (Below.refl _ (w7.alloc (.cells #[.int .i64 CA, .int .i64 CS, .int .i64 LM, .int .i64 HM, .slice (some ⟨g5, 0, none⟩) HZ.length q5, .slice none 0 0, .slice (some ⟨w7.heap.size + 1, 0, none⟩) 2 2] 27))) (.cells #[.slice (some ⟨g6, 0, none⟩) Z0.length q6, .slice (some ⟨g7, 0, none⟩) Z1.length q7] 24)))) hl (by have := F.l.size; omega)
theorem cell_same {W W' : World} {a : Addr} {v : Value} (hc : W.cell? a = some v) (h : W'.heap[a.block]? = W.heap[a.block]?) : W'.cell? a = some v := by
 unfold World.cell? at hc ⊢
 rw [h]
 exact hc
theorem al_keep {W : World} (o : Obj) {k : Nat} (h : k < W.heap.size) : (W.alloc o).heap[k]? = W.heap[k]? := (below_alloc (Below.refl W.heap.size W) o).block k h
theorem set_keep {W : World} {g j : Nat} (v : Value) {k : Nat} (h : k ≠ g) : (W.setCell ⟨g, j, none⟩ v).heap[k]? = W.heap[k]? := Below.heap_setCell W ⟨g, j, none⟩ v k h
theorem L3I.drew {w W : World} {AA BB cs : Array Value} {g n0 : Nat} {vh vr vz : Value} {HZ G : List Int} {ZZ : List (List Int)} (m : L3I w W AA BB g n0 cs vh vr vz HZ G ZZ) : L3I w W.drew AA BB g n0 cs vh vr vz HZ G ZZ :=
 ⟨m.F.below (below_drew (Below.refl _ _)), m.X, Kd.R_move m.H (fun _ _ => rfl), Kd.S_move m.Z (fun _ _ => rfl), Kd.R_move m.G (fun _ _ => rfl), m.lo, m.hi, m.n⟩
theorem L3I.gkeep {w W w1 : World} {AA BB cs : Array Value} {g n0 : Nat} {vh vr vz : Value} {HZ G : List Int} {ZZ : List (List Int)} (m : L3I w W AA BB g n0 cs vh vr vz HZ G ZZ) (hg : W.grownBy w1 vr.ownBlock) : ∀ k, k < n0 → k ≠ g → w1.heap[k]? = W.heap[k]? :=
 fun k hk _ => hg.block k (Nat.lt_of_lt_of_le hk m.n) (fun e => by have := m.G.1 k e.symm; omega)
theorem L3I.grow {w W w1 : World} {AA BB cs : Array Value} {g n0 : Nat} {vh vr vz v1 : Value} {HZ G G1 : List Int} {ZZ : List (List Int)} (m : L3I w W AA BB g n0 cs vh vr vz HZ G ZZ) (hg : W.grownBy w1 vr.ownBlock) (hb : Below (w.heap.size + 3) W w1) (ho : Kd.R (Kd.int .i64) 3 w1 (w.heap.size + 3) (fun k => n0 ≤ k) v1 G1) : L3I w w1 AA BB g n0 cs vh v1 vz HZ G1 ZZ := by
 have key : ∀ k, k < n0 → w1.heap[k]? = W.heap[k]? := fun k hk => hg.block k (Nat.lt_of_lt_of_le hk m.n) (fun e => by have := m.G.1 k e.symm; omega)
 have o1 := m.lo
 have o2 := m.hi
 exact ⟨⟨(key _ (by omega)).trans m.F.a, (key _ (by omega)).trans m.F.b, (key _ (by omega)).trans m.F.o, m.F.l.trans ⟨hb.os, hb.tape, hb.output, hb.size, fun i hi => hb.block i (by omega)⟩⟩, (key _ o2).trans m.X, Kd.R_move m.H (fun k hk => key k hk.2.1), Kd.S_move m.Z (fun k hk => key k hk.2.1), ho, o1, o2, Nat.le_trans m.n hb.size⟩
def l3ld : Op := Op.load 24 (Operand.tmp 68)
theorem L3I.sk {w W : World} {AA BB cs : Array Value} {g n0 : Nat} {x y z : Sl} {HZ G : List Int} {ZZ : List (List Int)} (m : L3I w W AA BB g n0 cs (.slice x.A x.n x.c) (.slice y.A y.n y.c) (.slice z.A z.n z.c) HZ G ZZ) : Sk W (w.heap.size + 3) W.heap.size x y z HZ G ZZ := by
 have o1 := m.lo
 have o2 := m.hi
 have o3 := m.n
 have hH := m.H.1
 have hG := m.G.1
 exact ⟨Kd.R_mono m.H (fun k hk => by omega), Kd.R_mono (Kd.R_bound m.G) (fun k hk => ⟨hk.2.2.1, fun e => by have := hH k e.symm; omega⟩), Kd.S_mono m.Z (fun k hk => ⟨by omega, hk.2.2.2, fun e => by have := hG k e.symm; omega⟩)⟩
theorem app1_step {ops : Array Oper} {o : Oper} {a : Act} (W X : World) {K : Act → World → Prop} {Q : Exit → Act → World → Prop} {base : Nat} {ok : Nat → Prop} {p : Int} (hX : X = W.alloc (.cells #[.int .i64 p] 3)) (hg : o.guard = none) (s x : Operand) (hop : o.op = Op.call { callee := Callee.builtin Builtin.append, args := #[s, x], argTypes := #[24, 24] })
  (v : Value) (xs : List Int) (p' : Int) (hp : p' = p) (hs : a.eval s = v) (hx : a.eval x = .slice (some ⟨W.heap.size, 0, none⟩) 1 1) (HO : Kd.R (Kd.int .i64) 3 W base ok v xs) (hfresh : ∀ k, W.heap.size ≤ k → ok k) (hbase : base ≤ W.heap.size) (hl : (xs.length + 1) * 8 ≤ 140737488355328)
  (hK : ∀ v1 w1, Kd.R (Kd.int .i64) 3 w1 base ok v1 (xs ++ [p]) → Below base W w1 → W.grownBy w1 v.ownBlock → K (a.put o.dst v1) w1) : if Region.wanted o (yielded ops a.tmps) = true then Oper.wp Try.prog o a X K Q else K (a.put o.dst undef) X := by
 subst hX
 exact Kd.R_append_step (Kd.int .i64) (w0 := W) base (by simp [Region.wanted, hg]) s x 24 3 (.int .i64 0) 8 hop Try.underlying24 info3 rfl (by decide) (by omega) v xs p [.int .i64 p] ok (fun _ => False) hs hx rfl (fun _ h => h.elim) hfresh HO (Below.refl _ _) hbase hl (fun v1 w1 h1 h2 h3 _ => hK v1 w1 h1 h2 h3)
theorem L3I.set {w W : World} {AA BB cs cs' : Array Value} {g n0 : Nat} {vh vr vz : Value} {HZ G : List Int} {ZZ : List (List Int)} (m : L3I w W AA BB g n0 cs vh vr vz HZ G ZZ) (i : Nat) (v : Value) (he : cs.setIfInBounds i v = cs') : L3I w (W.setCell ⟨g, i, none⟩ v) AA BB g n0 cs' vh vr vz HZ G ZZ := by
 have k : Kp W (W.setCell ⟨g, i, none⟩ v) g (g + 1) := Kp.set ⟨Nat.le_refl _, Nat.lt_succ_self _⟩ v
 have o1 := m.lo
 have o2 := m.hi
 have o3 := m.n
 have e := k.kept.1
 exact ⟨m.F.kp k (by omega), blk_put m.X i v he, Kd.R_move m.H (fun i hi => k.kept.2 i (by omega) (fun hs => hi.1 (by omega))), Kd.S_move m.Z (fun i hi => k.kept.2 i (by omega) (fun hs => hi.1 (by omega))),
  Kd.R_mono (Kd.R_move (Kd.R_bound m.G) (fun i hi => k.kept.2 i hi.2.2.1 (fun hs => by omega))) (fun _ hk => hk.1), o1, o2, by omega⟩
set_option maxHeartbeats 32000000 in
set_option maxRecDepth 100000 in
theorem spec_l3Merge.walk (k : Nat) (c s lo hi c' s' lo' hi' : Int) {A4 A5 A6 B4 B5 B6 : Option Addr} {c4 c5 c6 d4 d5 d6 : Nat} {h r h' r' : List Int} {R R' : List (List Int)} (w : World) (u : Rd w ⟨A4, h.length, c4⟩ ⟨A5, r.length, c5⟩ ⟨A6, R.length, c6⟩ h r R) (u' : Rd w ⟨B4, h'.length, d4⟩ ⟨B5, r'.length, d5⟩ ⟨B6, R'.length, d6⟩ h' r' R')
  (L : Aside0 (h.length = 8 ∧ r.length = 8 ∧ R.length = 2 ∧ h'.length = 8 ∧ r'.length = 8 ∧ R'.length = 2)) (CA CS LM HM : Int) (a1 : Aside0 (spec_Add.f c c' = some CA)) (a2 : Aside0 (spec_Add.f s s' = some CS)) (a3 : Aside0 (spec_l1Min.f lo lo' = some LM)) (a4 : Aside0 (spec_l1Max.f hi hi' = some HM))
  (HZ Z0 Z1 : List Int) (a5 : Aside0 (spec_l3Sum.f k h h' = some HZ)) (a6 : Aside0 (spec_l3Sum.f k (R.getD 0 []) (R'.getD 0 []) = some Z0)) (a7 : Aside0 (spec_l3Sum.f k (R.getD 1 []) (R'.getD 1 []) = some Z1)) (m1 m2 : Int) (HQ1 : Aside0 (((c == 0) = true ∧ m1 = lo') ∨ ((c == 0) = false ∧ m1 = LM))) (HQ2 : Aside0 (((c' == 0) = true ∧ m2 = lo) ∨ ((c' == 0) = false ∧ m2 = m1)))
  (RZ : List Int) (a8 : Aside0 (RZ.length = 8 ∧ ∀ i, i < 8 → spec_l1Max.f (r.getD i 0) (r'.getD i 0) = some (RZ.getD i 0))) (lz : HZ.length = 8 ∧ Z0.length = 4 ∧ Z1.length = 4) :
  Calls Try.prog 94 #[.agg #[.int .i64 c, .int .i64 s, .int .i64 lo, .int .i64 hi, .slice A4 h.length c4, .slice A5 r.length c5, .slice A6 R.length c6], .agg #[.int .i64 c', .int .i64 s', .int .i64 lo', .int .i64 hi', .slice B4 h'.length d4, .slice B5 r'.length d5, .slice B6 R'.length d6]] w (fun e w' => ∃ (x y z : Sl) (a b : Nat), e = .returned (.agg #[.int .i64 CA, .int .i64 CS, .int .i64 m2, .int .i64 HM, .slice x.A x.n x.c, .slice y.A y.n y.c, .slice z.A z.n z.c]) ∧ Sk w' a b x y z HZ RZ [Z0, Z1] ∧ Made w w' a b ∧ Below w.heap.size w w') := by
 have U := Aside0.mk u
 have U' := Aside0.mk u'
 clear u u'
 obtain ⟨ra, X0, x0_, X1, x1_, hA6, ra0, ra1, rle0, rle1, rC0, rC1⟩ := rows2 (c := 0) U.out.C6 L.out.2.2.1
 obtain ⟨rb, Y0, y0_, Y1, y1_, hB6, rb0, rb1, sle0, sle1, sC0, sC1⟩ := rows2 (c := 0) U'.out.C6 L.out.2.2.2.2.2
 have ra0 : w.cell? ra = some (.slice X0 (R.getD 0 []).length x0_) := ra0
 have rb0 : w.cell? rb = some (.slice Y0 (R'.getD 0 []).length y0_) := rb0
 have hA6 : A6 = some ra := hA6
 have hB6 : B6 = some rb := hB6
 subst hA6
 subst hB6
 obtain ⟨AA, hAA⟩ : ∃ a : Array Value, a = #[.int .i64 c, .int .i64 s, .int .i64 lo, .int .i64 hi, .slice A4 h.length c4, .slice A5 r.length c5, .slice (some ra) R.length c6] := ⟨_, rfl⟩
 obtain ⟨BB, hBB⟩ : ∃ a : Array Value, a = #[.int .i64 c', .int .i64 s', .int .i64 lo', .int .i64 hi', .slice B4 h'.length d4, .slice B5 r'.length d5, .slice (some rb) R'.length d6] := ⟨_, rfl⟩
 have F0 := Aside0.mk (show L3F w (((w.alloc (.cells #[.int .i64 c, .int .i64 s, .int .i64 lo, .int .i64 hi, .slice A4 h.length c4, .slice A5 r.length c5, .slice (some ra) R.length c6] 27)).alloc (.cells #[.int .i64 c', .int .i64 s', .int .i64 lo', .int .i64 hi', .slice B4 h'.length d4, .slice B5 r'.length d5, .slice (some rb) R'.length d6] 27)).alloc (.cells #[.int .i64 0, .int .i64 0, .int .i64 0, .int .i64 0, .slice none 0 0, .slice none 0 0, .slice none 0 0] 27)) AA BB from by subst hAA hBB; exact ⟨(Bx.new w 27 #[.int .i64 c, .int .i64 s, .int .i64 lo, .int .i64 hi, .slice A4 h.length c4, .slice A5 r.length c5, .slice (some ra) R.length c6]).below (below_alloc (below_alloc (Below.refl _ _) _) _), ((show (w.alloc (.cells #[.int .i64 c, .int .i64 s, .int .i64 lo, .int .i64 hi, .slice A4 h.length c4, .slice A5 r.length c5, .slice (some ra) R.length c6] 27)).heap.size = w.heap.size + 1 by simp) ▸ Bx.new (w.alloc (.cells #[.int .i64 c, .int .i64 s, .int .i64 lo, .int .i64 hi, .slice A4 h.length c4, .slice A5 r.length c5, .slice (some ra) R.length c6] 27)) 27 #[.int .i64 c', .int .i64 s', .int .i64 lo', .int .i64 hi', .slice B4 h'.length d4, .slice B5 r'.length d5, .slice (some rb) R'.length d6] : Bx _ (w.heap.size + 1) _ _).below (below_alloc (Below.refl _ _) _), ((show ((w.alloc (.cells #[.int .i64 c, .int .i64 s, .int .i64 lo, .int .i64 hi, .slice A4 h.length c4, .slice A5 r.length c5, .slice (some ra) R.length c6] 27)).alloc (.cells #[.int .i64 c', .int .i64 s', .int .i64 lo', .int .i64 hi', .slice B4 h'.length d4, .slice B5 r'.length d5, .slice (some rb) R'.length d6] 27)).heap.size = w.heap.size + 2 by simp) ▸ Bx.new ((w.alloc (.cells #[.int .i64 c, .int .i64 s, .int .i64 lo, .int .i64 hi, .slice A4 h.length c4, .slice A5 r.length c5, .slice (some ra) R.length c6] 27)).alloc (.cells #[.int .i64 c', .int .i64 s', .int .i64 lo', .int .i64 hi', .slice B4 h'.length d4, .slice B5 r'.length d5, .slice (some rb) R'.length d6] 27)) 27 #[.int .i64 0, .int .i64 0, .int .i64 0, .int .i64 0, .slice none 0 0, .slice none 0 0, .slice none 0 0] : Bx _ (w.heap.size + 2) _ _), below_alloc (below_alloc (below_alloc (Below.refl _ _) _) _) _⟩)
 have LS := Aside0.mk (show ∀ W, L3F w W AA BB → (fun w' => w'.cell? ⟨w.heap.size, 0, none⟩ = some (.int .i64 c) ∧ w'.cell? ⟨w.heap.size, 1, none⟩ = some (.int .i64 s) ∧ w'.cell? ⟨w.heap.size, 2, none⟩ = some (.int .i64 lo) ∧ w'.cell? ⟨w.heap.size, 3, none⟩ = some (.int .i64 hi) ∧ w'.cell? ⟨w.heap.size, 4, none⟩ = some (.slice A4 h.length c4) ∧ w'.cell? ⟨w.heap.size, 6, none⟩ = some (.slice (some ra) R.length c6) ∧ w'.cell? ⟨w.heap.size + 1, 0, none⟩ = some (.int .i64 c') ∧ w'.cell? ⟨w.heap.size + 1, 1, none⟩ = some (.int .i64 s') ∧ w'.cell? ⟨w.heap.size + 1, 2, none⟩ = some (.int .i64 lo') ∧ w'.cell? ⟨w.heap.size + 1, 3, none⟩ = some (.int .i64 hi') ∧ w'.cell? ⟨w.heap.size + 1, 4, none⟩ = some (.slice B4 h'.length d4) ∧ w'.cell? ⟨w.heap.size + 1, 6, none⟩ = some (.slice (some rb) R'.length d6) ∧ w'.cell? (ra) = some (.slice X0 (R.getD 0 []).length x0_) ∧ w'.cell? (⟨ra.block, ra.off + 1, none⟩) = some (.slice X1 (R.getD 1 []).length x1_) ∧ w'.cell? (rb) = some (.slice Y0 (R'.getD 0 []).length y0_) ∧ w'.cell? (⟨rb.block, rb.off + 1, none⟩) = some (.slice Y1 (R'.getD 1 []).length y1_)) W from fun W F => by subst hAA hBB; exact ⟨F.a.cells.1, F.a.cells.2.1, F.a.cells.2.2.1, F.a.cells.2.2.2.1, F.a.cells.2.2.2.2.1, F.a.cells.2.2.2.2.2.2, F.b.cells.1, F.b.cells.2.1, F.b.cells.2.2.1, F.b.cells.2.2.2.1, F.b.cells.2.2.2.2.1, F.b.cells.2.2.2.2.2.2, pw_cell_below F.l ra0, pw_cell_below F.l ra1, pw_cell_below F.l rb0, pw_cell_below F.l rb1⟩)
 have HAA := Aside0.mk hAA
 have HBB := Aside0.mk hBB
 clear hAA hBB
 have RC := Aside0.mk (And.intro rle0 (And.intro rle1 (And.intro sle0 (And.intro sle1 (And.intro rC0 (And.intro rC1 (And.intro sC0 sC1)))))))
 clear ra0 ra1 rb0 rb1 rle0 rle1 sle0 sle1 rC0 rC1 sC0 sC1
 have p0 : (0 : Int) < (R.length : Int) := by have := L.out; omega
 have pn0 : 0 < R.length := by have := L.out; omega
 have p1 : (1 : Int) < (R.length : Int) := by have := L.out; omega
 have pn1 : 1 < R.length := by have := L.out; omega
 have q0 : (0 : Int) < (R'.length : Int) := by have := L.out; omega
 have qn0 : 0 < R'.length := by have := L.out; omega
 have q1 : (1 : Int) < (R'.length : Int) := by have := L.out; omega
 have qn1 : 1 < R'.length := by have := L.out; omega
 go_enter Try.func94, Try.ntmps94
 go_upto_region 1 with (fail)
 go_cut [5] (fun v5 wc => ∃ gB g5 q5 gl : Nat, v5 = .pointer (some ⟨gB, 0, none⟩) ∧ Aside0 (L3I w wc AA BB gB wc.heap.size #[.int .i64 CA, .int .i64 CS, .int .i64 LM, .int .i64 HM, .slice (some ⟨g5, 0, none⟩) HZ.length q5, .slice none 0 0, .slice (some ⟨gl, 0, none⟩) 2 2] (.slice (some ⟨g5, 0, none⟩) HZ.length q5) (.slice none 0 0) (.slice (some ⟨gl, 0, none⟩) 2 2) HZ [] [Z0, Z1]))
 case first =>
  have K5 := Aside0.mk (fun W (F : L3F w W AA BB) => spec_l3Sum.calls k _ _ h _ _ h' HZ W (U.out.below F.l).C4 (by have := U.out.l4; exact this) (U'.out.below F.l).C4 (by have := U'.out.l4; exact this) a5.out)
  have K6 := Aside0.mk (fun W (F : L3F w W AA BB) => spec_l3Sum.calls k _ _ (R.getD 0 []) _ _ (R'.getD 0 []) Z0 W (Kd.C_below RC.out.2.2.2.2.1 F.l) RC.out.1 (Kd.C_below RC.out.2.2.2.2.2.2.1 F.l) RC.out.2.2.1 a6.out)
  have K7 := Aside0.mk (fun W (F : L3F w W AA BB) => spec_l3Sum.calls k _ _ (R.getD 1 []) _ _ (R'.getD 1 []) Z1 W (Kd.C_below RC.out.2.2.2.2.2.1 F.l) RC.out.2.1 (Kd.C_below RC.out.2.2.2.2.2.2.2 F.l) RC.out.2.2.2.1 a7.out)
  clear U U' RC ra0 rb0
  generalize (R.getD 0 []).length = n0 at LS K6 K7
  generalize (R.getD 1 []).length = n1 at LS K6 K7
  generalize (R'.getD 0 []).length = o0 at LS K6 K7
  generalize (R'.getD 1 []).length = o1 at LS K6 K7
  have hW0 : w.heap.size + 3 ≤ ((((w.alloc (.cells #[.int .i64 c, .int .i64 s, .int .i64 lo, .int .i64 hi, .slice A4 h.length c4, .slice A5 r.length c5, .slice (some ra) R.length c6] 27)).alloc (.cells #[.int .i64 c', .int .i64 s', .int .i64 lo', .int .i64 hi', .slice B4 h'.length d4, .slice B5 r'.length d5, .slice (some rb) R'.length d6] 27)).alloc (.cells #[.int .i64 0, .int .i64 0, .int .i64 0, .int .i64 0, .slice none 0 0, .slice none 0 0, .slice none 0 0] 27))).heap.size := by simp
  generalize (((w.alloc (.cells #[.int .i64 c, .int .i64 s, .int .i64 lo, .int .i64 hi, .slice A4 h.length c4, .slice A5 r.length c5, .slice (some ra) R.length c6] 27)).alloc (.cells #[.int .i64 c', .int .i64 s', .int .i64 lo', .int .i64 hi', .slice B4 h'.length d4, .slice B5 r'.length d5, .slice (some rb) R'.length d6] 27)).alloc (.cells #[.int .i64 0, .int .i64 0, .int .i64 0, .int .i64 0, .slice none 0 0, .slice none 0 0, .slice none 0 0] 27)) = W0 at *
  have F4 := Aside0.mk (F0.out.below (below_drew (Below.refl _ _)))
  have z4 : w.heap.size + 3 ≤ W0.drew.heap.size := hW0
  have s4 := z4
  have ZL := Aside0.mk lz
  clear lz
  go_region_held3 (fun w' => w'.cell? ⟨w.heap.size, 0, none⟩ = some (.int .i64 c) ∧ w'.cell? ⟨w.heap.size, 1, none⟩ = some (.int .i64 s) ∧ w'.cell? ⟨w.heap.size, 2, none⟩ = some (.int .i64 lo) ∧ w'.cell? ⟨w.heap.size, 3, none⟩ = some (.int .i64 hi) ∧ w'.cell? ⟨w.heap.size, 4, none⟩ = some (.slice A4 h.length c4) ∧ w'.cell? ⟨w.heap.size, 6, none⟩ = some (.slice (some ra) R.length c6) ∧ w'.cell? ⟨w.heap.size + 1, 0, none⟩ = some (.int .i64 c') ∧ w'.cell? ⟨w.heap.size + 1, 1, none⟩ = some (.int .i64 s') ∧ w'.cell? ⟨w.heap.size + 1, 2, none⟩ = some (.int .i64 lo') ∧ w'.cell? ⟨w.heap.size + 1, 3, none⟩ = some (.int .i64 hi') ∧ w'.cell? ⟨w.heap.size + 1, 4, none⟩ = some (.slice B4 h'.length d4) ∧ w'.cell? ⟨w.heap.size + 1, 6, none⟩ = some (.slice (some rb) R'.length d6) ∧ w'.cell? (ra) = some (.slice X0 n0 x0_) ∧ w'.cell? (⟨ra.block, ra.off + 1, none⟩) = some (.slice X1 n1 x1_) ∧ w'.cell? (rb) = some (.slice Y0 o0 y0_) ∧ w'.cell? (⟨rb.block, rb.off + 1, none⟩) = some (.slice Y1 o1 y1_)) (first | with_reducible exact FL.out _ _ _ _ _ _ _ _ | with_reducible exact LS.out _ (F0.out.below (below_drew (below_alloc (Below.refl _ W0) (.cells #[.int .i64 0, .int .i64 0, .int .i64 0, .int .i64 0, .slice none 0 0, .slice none 0 0, .slice none 0 0] 27)))) | with_reducible exact LS.out _ F4.out | with_reducible exact LS.out _ (F4.out.below (below_alloc (Below.refl _ _) (.cells #[.int .i64 0, .int .i64 0, .int .i64 0, .int .i64 0, .slice none 0 0, .slice none 0 0, .slice none 0 0] 27))) | with_reducible exact LS.out _ F5.out | with_reducible exact LS.out _ (F5.out.below (below_alloc (Below.refl _ _) (.cells #[.int .i64 0, .int .i64 0, .int .i64 0, .int .i64 0, .slice none 0 0, .slice none 0 0, .slice none 0 0] 27))) | with_reducible exact LS.out _ F6.out | with_reducible exact LS.out _ (F6.out.below (below_alloc (Below.refl _ _) (.cells #[.int .i64 0, .int .i64 0, .int .i64 0, .int .i64 0, .slice none 0 0, .slice none 0 0, .slice none 0 0] 27))) | with_reducible exact LS.out _ F7.out | with_reducible exact LS.out _ (F7.out.below (below_alloc (Below.refl _ _) (.cells #[.int .i64 0, .int .i64 0, .int .i64 0, .int .i64 0, .slice none 0 0, .slice none 0 0, .slice none 0 0] 27))) | with_reducible exact LS.out _ (F7.out.below (below_alloc (Below.refl _ _) _)) | with_reducible exact LS.out _ (F7.out.below (below_alloc (below_alloc (Below.refl _ _) _) _))) (first | (go_at_call 107; (with_reducible refine (spec_Add.still c c' CA _ a1.out).mono ?_); rintro e wq ⟨rfl, rfl⟩) | (go_at_call 107; (with_reducible refine (spec_Add.still s s' CS _ a2.out).mono ?_); rintro e wq ⟨rfl, rfl⟩) | (go_at_call 108; (with_reducible refine (spec_l1Min.still lo lo' LM _ a3.out).mono ?_); rintro e wq ⟨rfl, rfl⟩) | (go_at_call 109; (with_reducible refine (spec_l1Max.still hi hi' HM _ a4.out).mono ?_); rintro e wq ⟨rfl, rfl⟩) | (go_at_call 110; (with_reducible refine (K5.out _ F4.out).mono ?_); rintro e w5 ⟨v5, rfl, hr, hb⟩; obtain ⟨g5, q5, rfl, lo5, lt5, _⟩ := Kd.R_form hr (by have := ZL.out; omega); have sz5 := hb.size; (first | (replace Y := Aside0.mk (Y.out.below hb)) | skip); have F5 := Aside0.mk (F4.out.below hb); have J5 := Aside0.mk (row_to hr (Below.refl _ _) s4); have s5 := Nat.le_trans s4 hb.size; clear F4 hr hb) | (go_at_call 110; (with_reducible refine (K5.out _ (F4.out.below (below_alloc (Below.refl _ _) (.cells #[.int .i64 0, .int .i64 0, .int .i64 0, .int .i64 0, .slice none 0 0, .slice none 0 0, .slice none 0 0] 27)))).mono ?_); rintro e w5 ⟨v5, rfl, hr, hb⟩; obtain ⟨g5, q5, rfl, lo5, lt5, _⟩ := Kd.R_form hr (by have := ZL.out; omega); have sz5 := hb.size; have Y := Aside0.mk (show Bx w5 W0.heap.size 27 #[.int .i64 0, .int .i64 0, .int .i64 0, .int .i64 0, .slice none 0 0, .slice none 0 0, .slice none 0 0] from (Bx.new W0.drew 27 #[.int .i64 0, .int .i64 0, .int .i64 0, .int .i64 0, .slice none 0 0, .slice none 0 0, .slice none 0 0]).below hb); have y0 : w.heap.size + 2 < W0.drew.heap.size := (by omega); have hb := below_step (below_alloc (Below.refl _ _) (.cells #[.int .i64 0, .int .i64 0, .int .i64 0, .int .i64 0, .slice none 0 0, .slice none 0 0, .slice none 0 0] 27)) hb; replace lo5 := sz_alloc1 lo5; replace sz5 := sz_alloc1 sz5; have F5 := Aside0.mk (F4.out.below hb); have J5 := Aside0.mk (row_to hr (Below.refl _ _) (Nat.le_trans s4 (sz_alloc _ _))); have s5 := Nat.le_trans s4 hb.size; clear F4 hr hb) | (go_at_call 110; (with_reducible refine (K5.out _ (F0.out.below (below_drew (below_alloc (Below.refl _ W0) (.cells #[.int .i64 0, .int .i64 0, .int .i64 0, .int .i64 0, .slice none 0 0, .slice none 0 0, .slice none 0 0] 27))))).mono ?_); rintro e w5 ⟨v5, rfl, hr, hb⟩; obtain ⟨g5, q5, rfl, lo5, lt5, _⟩ := Kd.R_form hr (by have := ZL.out; omega); have sz5 := hb.size; have Y := Aside0.mk (show Bx w5 W0.heap.size 27 #[.int .i64 0, .int .i64 0, .int .i64 0, .int .i64 0, .slice none 0 0, .slice none 0 0, .slice none 0 0] from ((Bx.new W0 27 #[.int .i64 0, .int .i64 0, .int .i64 0, .int .i64 0, .slice none 0 0, .slice none 0 0, .slice none 0 0]).below (below_drew (Below.refl _ _))).below hb); have y0 : w.heap.size + 2 < W0.heap.size := (by omega); have J5 := Aside0.mk (row_to hr (Below.refl _ _) (Nat.le_trans hW0 (sz_alloc W0 (.cells #[.int .i64 0, .int .i64 0, .int .i64 0, .int .i64 0, .slice none 0 0, .slice none 0 0, .slice none 0 0] 27)))); have hb := below_step (below_drew (below_alloc (Below.refl _ W0) (.cells #[.int .i64 0, .int .i64 0, .int .i64 0, .int .i64 0, .slice none 0 0, .slice none 0 0, .slice none 0 0] 27))) hb; replace lo5 := sz_alloc1 (w := W0) (o := (.cells #[.int .i64 0, .int .i64 0, .int .i64 0, .int .i64 0, .slice none 0 0, .slice none 0 0, .slice none 0 0] 27)) lo5; replace sz5 := sz_alloc1 (w := W0) (o := (.cells #[.int .i64 0, .int .i64 0, .int .i64 0, .int .i64 0, .slice none 0 0, .slice none 0 0, .slice none 0 0] 27)) sz5; have F5 := Aside0.mk (F0.out.below hb); have s5 := Nat.le_trans hW0 hb.size; clear F4 hr hb) | (go_at_call 110; (with_reducible refine (K6.out _ F5.out).mono ?_); rintro e w6 ⟨v6, rfl, hr, hb⟩; obtain ⟨g6, q6, rfl, lo6, lt6, _⟩ := Kd.R_form hr (by have := ZL.out; omega); have sz6 := hb.size; (first | (replace Y := Aside0.mk (Y.out.below hb)) | skip); have F6 := Aside0.mk (F5.out.below hb); have J6 := Aside0.mk (row_to hr (Below.refl _ _) s5); have s6 := Nat.le_trans s5 hb.size; replace J5 := Aside0.mk (Kd.R_below J5.out hb); clear F5 hr hb) | (go_at_call 110; (with_reducible refine (K6.out _ (F5.out.below (below_alloc (Below.refl _ _) (.cells #[.int .i64 0, .int .i64 0, .int .i64 0, .int .i64 0, .slice none 0 0, .slice none 0 0, .slice none 0 0] 27)))).mono ?_); rintro e w6 ⟨v6, rfl, hr, hb⟩; obtain ⟨g6, q6, rfl, lo6, lt6, _⟩ := Kd.R_form hr (by have := ZL.out; omega); have sz6 := hb.size; have Y := Aside0.mk (show Bx w6 w5.heap.size 27 #[.int .i64 0, .int .i64 0, .int .i64 0, .int .i64 0, .slice none 0 0, .slice none 0 0, .slice none 0 0] from (Bx.new w5 27 #[.int .i64 0, .int .i64 0, .int .i64 0, .int .i64 0, .slice none 0 0, .slice none 0 0, .slice none 0 0]).below hb); have y0 : w.heap.size + 2 < w5.heap.size := (by omega); have hb := below_step (below_alloc (Below.refl _ _) (.cells #[.int .i64 0, .int .i64 0, .int .i64 0, .int .i64 0, .slice none 0 0, .slice none 0 0, .slice none 0 0] 27)) hb; replace lo6 := sz_alloc1 lo6; replace sz6 := sz_alloc1 sz6; have F6 := Aside0.mk (F5.out.below hb); have J6 := Aside0.mk (row_to hr (Below.refl _ _) (Nat.le_trans s5 (sz_alloc _ _))); have s6 := Nat.le_trans s5 hb.size; replace J5 := Aside0.mk (Kd.R_below J5.out hb); clear F5 hr hb) | (go_at_call 110; (with_reducible refine (K7.out _ F6.out).mono ?_); rintro e w7 ⟨v7, rfl, hr, hb⟩; obtain ⟨g7, q7, rfl, lo7, lt7, _⟩ := Kd.R_form hr (by have := ZL.out; omega); have sz7 := hb.size; (first | (replace Y := Aside0.mk (Y.out.below hb)) | skip); have F7 := Aside0.mk (F6.out.below hb); have J7 := Aside0.mk (row_to hr (Below.refl _ _) s6); have s7 := Nat.le_trans s6 hb.size; replace J5 := Aside0.mk (Kd.R_below J5.out hb); replace J6 := Aside0.mk (Kd.R_below J6.out hb); (first | (obtain ⟨c0, c1, c2, c3, c4_, c5_, c6_⟩ := Y.out.cellsA; have cf := fun (o : Obj) i => Bx.fz (Y.out.below (below_alloc (Below.refl _ _) o)) i; have FL := Aside0.mk (fun (o : Obj) u0 u1 u2 u3 u4 u5 u6 => LS.out _ (L3F.kp (F7.out.below (below_alloc (Below.refl _ _) o)) ((Y.out.below (below_alloc (Below.refl _ _) o)).fill u0 u1 u2 u3 u4 u5 u6).2 (by omega)))) | skip); clear F6 hr hb) | (go_at_call 110; (with_reducible refine (K7.out _ (F6.out.below (below_alloc (Below.refl _ _) (.cells #[.int .i64 0, .int .i64 0, .int .i64 0, .int .i64 0, .slice none 0 0, .slice none 0 0, .slice none 0 0] 27)))).mono ?_); rintro e w7 ⟨v7, rfl, hr, hb⟩; obtain ⟨g7, q7, rfl, lo7, lt7, _⟩ := Kd.R_form hr (by have := ZL.out; omega); have sz7 := hb.size; have Y := Aside0.mk (show Bx w7 w6.heap.size 27 #[.int .i64 0, .int .i64 0, .int .i64 0, .int .i64 0, .slice none 0 0, .slice none 0 0, .slice none 0 0] from (Bx.new w6 27 #[.int .i64 0, .int .i64 0, .int .i64 0, .int .i64 0, .slice none 0 0, .slice none 0 0, .slice none 0 0]).below hb); have y0 : w.heap.size + 2 < w6.heap.size := (by omega); have hb := below_step (below_alloc (Below.refl _ _) (.cells #[.int .i64 0, .int .i64 0, .int .i64 0, .int .i64 0, .slice none 0 0, .slice none 0 0, .slice none 0 0] 27)) hb; replace lo7 := sz_alloc1 lo7; replace sz7 := sz_alloc1 sz7; have F7 := Aside0.mk (F6.out.below hb); have J7 := Aside0.mk (row_to hr (Below.refl _ _) (Nat.le_trans s6 (sz_alloc _ _))); have s7 := Nat.le_trans s6 hb.size; replace J5 := Aside0.mk (Kd.R_below J5.out hb); replace J6 := Aside0.mk (Kd.R_below J6.out hb); (first | (obtain ⟨c0, c1, c2, c3, c4_, c5_, c6_⟩ := Y.out.cellsA; have cf := fun (o : Obj) i => Bx.fz (Y.out.below (below_alloc (Below.refl _ _) o)) i; have FL := Aside0.mk (fun (o : Obj) u0 u1 u2 u3 u4 u5 u6 => LS.out _ (L3F.kp (F7.out.below (below_alloc (Below.refl _ _) o)) ((Y.out.below (below_alloc (Below.refl _ _) o)).fill u0 u1 u2 u3 u4 u5 u6).2 (by omega)))) | skip); clear F6 hr hb))
  all_goals
   have z9 := F7.out.l.size
   refine Met.intro ?_
   go_step
   go_meet
   case rel =>
    first
     | ((with_reducible refine ⟨_, _, _, _, rfl, ⟨l3_finC F7.out Y.out J5.out J6.out J7.out ?_⟩⟩); omega)
     | ((with_reducible refine ⟨_, _, _, _, rfl, ⟨l3_finA F7.out J5.out J6.out J7.out ?_⟩⟩); omega)
     | ((with_reducible refine ⟨_, _, _, _, rfl, ⟨l3_finB F7.out J5.out J6.out J7.out ?_⟩⟩); omega)
 case rest =>
  obtain ⟨gB, g5, q5, gl, rfl, M⟩ := hcut
  clear F0 LS RC
  have ZL2 := Aside0.mk lz
  clear lz
  generalize hn0 : wc.heap.size = n0 at *
  clear hn0
  have e1 : w.heap.size ≠ gB := by have := M.out.lo; omega
  have e2 : w.heap.size + 1 ≠ gB := by have := M.out.lo; omega
  have e3 : gB ≠ w.heap.size := by have := M.out.lo; omega
  have e4 : gB ≠ w.heap.size + 1 := by have := M.out.lo; omega
  have ba := M.out.F.a
  have bb := M.out.F.b
  rw [HAA.out] at ba
  rw [HBB.out] at bb
  obtain ⟨x0, x1, x2, x3, x4, x5, x6⟩ := ba.cells
  obtain ⟨y0, y1, y2, y3, y4, y5, y6⟩ := bb.cells
  clear ba bb
  obtain ⟨z0, z1, z2, z3, z4_, z5, z6⟩ := M.out.X.cells
  have fz := M.out.X.fz
  go_upto_if 54 with (fail)
  clear x0 x1 x2 x3 x4 x5 x6 y0 y1 y2 y3 y4 y5 y6 z0 z1 z2 z3 z4_ z5 z6 fz
  go_cut [] (fun wd => Aside0 (L3I w wd AA BB gB n0 #[.int .i64 CA, .int .i64 CS, .int .i64 m1, .int .i64 HM, .slice (some ⟨g5, 0, none⟩) HZ.length q5, .slice none 0 0, .slice (some ⟨gl, 0, none⟩) 2 2] (.slice (some ⟨g5, 0, none⟩) HZ.length q5) (.slice none 0 0) (.slice (some ⟨gl, 0, none⟩) 2 2) HZ [] [Z0, Z1]))
  case first =>
   obtain ⟨q, hm⟩ | ⟨q, hm⟩ := HQ1.out
   all_goals
    have HM2 := Aside0.mk hm;clear hm;have ba := M.out.F.a;have bb := M.out.F.b;rw [HAA.out] at ba;rw [HBB.out] at bb;obtain ⟨x0, x1, x2, x3, x4, x5, x6⟩ := ba.cells;obtain ⟨y0, y1, y2, y3, y4, y5, y6⟩ := bb.cells;clear ba bb;obtain ⟨z0, z1, z2, z3, z4_, z5, z6⟩ := M.out.X.cells;have fz := M.out.X.fz
    go_wp2_with fail
    go_meet
    case rel =>
     rw [HM2.out]
     first
      | exact ⟨M.out.set 2 (.int .i64 lo') rfl⟩
      | exact M
  case rest =>
   clear M
   have M := hcut
   clear hcut
   have ba := M.out.F.a
   have bb := M.out.F.b
   rw [HAA.out] at ba
   rw [HBB.out] at bb
   obtain ⟨x0, x1, x2, x3, x4, x5, x6⟩ := ba.cells
   obtain ⟨y0, y1, y2, y3, y4, y5, y6⟩ := bb.cells
   clear ba bb
   obtain ⟨z0, z1, z2, z3, z4_, z5, z6⟩ := M.out.X.cells
   have fz := M.out.X.fz
   go_upto_if 60 with (fail)
   clear x0 x1 x2 x3 x4 x5 x6 y0 y1 y2 y3 y4 y5 y6 z0 z1 z2 z3 z4_ z5 z6 fz
   go_cut [] (fun wd => Aside0 (L3I w wd AA BB gB n0 #[.int .i64 CA, .int .i64 CS, .int .i64 m2, .int .i64 HM, .slice (some ⟨g5, 0, none⟩) HZ.length q5, .slice none 0 0, .slice (some ⟨gl, 0, none⟩) 2 2] (.slice (some ⟨g5, 0, none⟩) HZ.length q5) (.slice none 0 0) (.slice (some ⟨gl, 0, none⟩) 2 2) HZ [] [Z0, Z1]))
   case first =>
    obtain ⟨q, hm⟩ | ⟨q, hm⟩ := HQ2.out
    all_goals
     have HM2 := Aside0.mk hm;clear hm;have ba := M.out.F.a;have bb := M.out.F.b;rw [HAA.out] at ba;rw [HBB.out] at bb;obtain ⟨x0, x1, x2, x3, x4, x5, x6⟩ := ba.cells;obtain ⟨y0, y1, y2, y3, y4, y5, y6⟩ := bb.cells;clear ba bb;obtain ⟨z0, z1, z2, z3, z4_, z5, z6⟩ := M.out.X.cells;have fz := M.out.X.fz
     go_wp2_with fail
     go_meet
     case rel =>
      rw [HM2.out]
      first
       | exact ⟨M.out.set 2 (.int .i64 lo) rfl⟩
       | exact M
   case rest =>
    clear M;have M := hcut;clear hcut;have RL := Aside0.mk (And.intro M.out.lo M.out.hi);have U0 := Aside0.mk U.out
    go_wp2
    go_loopg [6] 9 (fun gg s6 wr => ∃ (i : Nat) (A5_ : Option Addr) (c5_ : Nat), i ≤ 8 ∧ 8 - i + 1 ≤ gg ∧ s6 = .int .i64 (i : Int) ∧ Aside0 (L3I w wr AA BB gB n0 #[.int .i64 CA, .int .i64 CS, .int .i64 m2, .int .i64 HM, .slice (some ⟨g5, 0, none⟩) HZ.length q5, .slice A5_ i c5_, .slice (some ⟨gl, 0, none⟩) 2 2] (.slice (some ⟨g5, 0, none⟩) HZ.length q5) (.slice A5_ i c5_) (.slice (some ⟨gl, 0, none⟩) 2 2) HZ (RZ.take i) [Z0, Z1]))
    case atStart => exact ⟨0, none, 0, by omega, by omega, rfl, M⟩
    case round =>
     clear M;obtain ⟨i, A5_, c5_, hi, hgk, rfl, M⟩ := hrel
     by_cases hlt : i < 8
     ·have hd : decide ((i : Int) < 8) = true := decide_eq_true (by omega)
      have h0 : (0 : Int) ≤ (i : Int) := by omega
      have hr1 : (i : Int) < (r.length : Int) := by have := L.out; omega
      have hr2 : (i : Int) < (r'.length : Int) := by have := L.out; omega
      obtain ⟨ad, eA, gw⟩ := ints_at U.out.C5 i (by have := L.out; omega);obtain ⟨ad', eA', gw'⟩ := ints_at U'.out.C5 i (by have := L.out; omega);have eA : A5 = some ad := eA;have eA' : B5 = some ad' := eA';subst eA eA';have h8 := a8.out.2 i hlt;have T8 := Aside0.mk (show RZ.take i ++ [RZ.getD i 0] = RZ.take (i + 1) from by rw [List.take_succ_eq_append_getElem (by rw [a8.out.1]; exact hlt), List.getD_eq_getElem?_getD, List.getElem?_eq_getElem (by rw [a8.out.1]; exact hlt)]; rfl);have TL1 := Aside0.mk (show (RZ.take (i + 1)).length = i + 1 from by rw [List.length_take, a8.out.1]; omega);have TL := Aside0.mk (show (RZ.take i).length = i from by rw [List.length_take, a8.out.1]; omega);generalize r.getD i 0 = v1 at gw h8;generalize r'.getD i 0 = v2 at gw' h8;generalize RZ.getD i 0 = v3 at T8 h8;have H8 := Aside0.mk h8;clear h8;have ba := M.out.F.a;have bb := M.out.F.b;rw [HAA.out] at ba;rw [HBB.out] at bb;obtain ⟨x0, x1, x2, x3, x4, x5, x6⟩ := ba.cells;obtain ⟨y0, y1, y2, y3, y4, y5, y6⟩ := bb.cells;clear ba bb;obtain ⟨z0, z1, z2, z3, z4_, z5, z6⟩ := M.out.X.cells;have fz := M.out.X.fz;have kw := World.block_lt_of_cell? w _ gw;have kw' := World.block_lt_of_cell? w _ gw';have gA := (M.out.F.l.cell (p := ad.add i) kw).trans gw;have gA' := (M.out.F.l.cell (p := ad'.add i) kw').trans gw';have LS := Aside0.mk (show ∀ W' : World, (∀ k, k < n0 → k ≠ gB → W'.heap[k]? = wr.heap[k]?) → (fun w' : World => w'.cell? ⟨w.heap.size, 5, none⟩ = some (.slice (some ad) r.length c5) ∧ w'.cell? ⟨w.heap.size + 1, 5, none⟩ = some (.slice (some ad') r'.length d5) ∧ w'.cell? (ad.add i) = some (.int .i64 v1) ∧ w'.cell? (ad'.add i) = some (.int .i64 v2)) W' from fun W' h => ⟨cell_same x5 (h _ (by have := RL.out; show w.heap.size < n0; omega) (by have := RL.out; show w.heap.size ≠ gB; omega)), cell_same y5 (h _ (by have := RL.out; show w.heap.size + 1 < n0; omega) (by have := RL.out; show w.heap.size + 1 ≠ gB; omega)), cell_same gA (h _ (Nat.lt_trans kw (by have := RL.out; omega)) (Nat.ne_of_lt (Nat.lt_trans kw (by have := RL.out; omega)))), cell_same gA' (h _ (Nat.lt_trans kw' (by have := RL.out; omega)) (Nat.ne_of_lt (Nat.lt_trans kw' (by have := RL.out; omega))))⟩)
      have zo : ∀ o, (wr.drew.alloc o).cell? ⟨gB, 5, none⟩ = some (.slice A5_ i c5_) := fun o => (M.out.drew.X.below (below_alloc (Below.refl _ _) o)).cells.2.2.2.2.2.1
      have zo2 : ∀ o, (wr.alloc o).cell? ⟨gB, 5, none⟩ = some (.slice A5_ i c5_) := fun o => (M.out.X.below (below_alloc (Below.refl _ _) o)).cells.2.2.2.2.2.1
      have NN := Aside0.mk M.out.n;clear kw kw' gw gw' x0 x1 x2 x3 x4 x6 y0 y1 y2 y3 y4 y6 z0 z1 z2 z3 z4_ z6 fz
      go_wp2_with fail
      have hl3 : l3ld = Op.load 24 (Operand.tmp 68) := rfl;rw [show Op.load 24 (Operand.tmp 68) = l3ld from rfl]
      go_region_held_law (fun w' : World => w'.cell? ⟨w.heap.size, 5, none⟩ = some (.slice (some ad) r.length c5) ∧ w'.cell? ⟨w.heap.size + 1, 5, none⟩ = some (.slice (some ad') r'.length d5) ∧ w'.cell? (ad.add i) = some (.int .i64 v1) ∧ w'.cell? (ad'.add i) = some (.int .i64 v2)) (first | exact KS.out _ | exact LS.out _ (fun _ _ _ => rfl) | exact LS.out _ (fun k hk _ => al_keep _ (Nat.lt_of_lt_of_le hk NN.out)) | exact LS.out _ K1.out | exact LS.out _ (fun k hk hn => (set_keep _ hn).trans (K1.out k hk hn)) | go_keep) (first | (refine app1_step wr.drew _ rfl rfl (.tmp 69) (.tmp 81) rfl (.slice A5_ i c5_) (RZ.take i) v3 rfl rfl rfl M.out.drew.G (fun k hk => Nat.le_trans NN.out hk) (by have := RL.out; have := NN.out; show w.heap.size + 3 ≤ wr.heap.size; omega) (by have := TL.out; omega) ?_; intro v4 w1 ho hb hg; rw [T8.out] at ho; obtain ⟨A6_, c6_, rfl⟩ := Kd.R_slice ho; rw [TL1.out] at ho; rw [TL1.out]; have M1 := Aside0.mk (M.out.drew.grow hg hb ho); clear ho; have K1 := Aside0.mk (show ∀ k, k < n0 → k ≠ gB → w1.heap[k]? = wr.heap[k]? from M.out.drew.gkeep hg); clear hb hg; have KS := Aside0.mk (fun v : Value => LS.out (w1.setCell ⟨gB, 5, none⟩ v) (fun k hk hn => (set_keep v hn).trans (K1.out k hk hn))); obtain ⟨_, _, _, _, _, t5, _⟩ := M1.out.X.cells; have ft := M1.out.X.fz) | (go_at_call 109; (with_reducible refine (spec_l1Max.still v1 v2 v3 _ H8.out).mono ?_); rintro e wq ⟨rfl, rfl⟩))
      all_goals
       go_wp2
       go_roundg (8 - (i + 1) + 1)
       case measure => omega
       case rel => exact ⟨i + 1, A6_, c6_, by omega, by omega, by go_num, ⟨M1.out.set 5 (.slice A6_ (i + 1) c6_) rfl⟩⟩
     ·have : i = 8 := by omega
      subst this
      have hd : decide (((8 : Nat) : Int) < 8) = false := by decide
      have hR8 : RZ.take 8 = RZ := List.take_of_length_le (by rw [a8.out.1]; exact Nat.le_refl _);rw [hR8] at M;clear hR8
      have ne1 : w.heap.size + 2 ≠ gB := by have := RL.out; omega
      have ne2 : gB ≠ w.heap.size + 2 := by have := RL.out; omega
      obtain ⟨z0, z1, z2, z3, z4_, z5, z6⟩ := M.out.X.cells;obtain ⟨o0, o1, o2, o3, o4, o5, o6⟩ := M.out.F.o.cells;have fo := M.out.F.o.fz
      go_wp2
      clear z0 z1 z2 z3 z4_ z5 z6 o0 o1 o2 o3 o4 o5 o6 fo;have FB := Aside0.mk ((show Bx wr (w.heap.size + 1 + 1) 27 #[.int .i64 0, .int .i64 0, .int .i64 0, .int .i64 0, .slice none 0 0, .slice none 0 0, .slice none 0 0] from M.out.F.o).fill (.int .i64 CA) (.int .i64 CS) (.int .i64 m2) (.int .i64 HM) (.slice (some ⟨g5, 0, none⟩) HZ.length q5) (.slice A5_ 8 c5_) (.slice (some ⟨gl, 0, none⟩) 2 2));refine bodyPost_ret (results_cell_row rfl _ _ (w.heap.size + 1 + 1) 27 #[.int .i64 CA, .int .i64 CS, .int .i64 m2, .int .i64 HM, .slice (some ⟨g5, 0, none⟩) HZ.length q5, .slice A5_ 8 c5_, .slice (some ⟨gl, 0, none⟩) 2 2] (0, 0) _ rfl FB.out.1 Try.underlying27 rfl (by kernel_rfl)) rfl ?_;have N8 := M.out.n;have RR := RL.out;exact ⟨⟨some ⟨g5, 0, none⟩, HZ.length, q5⟩, ⟨A5_, 8, c5_⟩, ⟨some ⟨gl, 0, none⟩, 2, 2⟩, w.heap.size + 3, wr.heap.size, rfl, M.out.sk.kp FB.out.2 (.inl (by omega)), ⟨by omega, by omega, FB.out.2.kept.1⟩, below_kp M.out.F.l FB.out.2 (by omega) M.out.F.l.size⟩

def spec_l3Merge.G (l0_4 l0_5 : List Int) (l0_6 : List (List Int)) (l1_4 l1_5 : List Int) (l1_6 : List (List Int)) (HZ Z0 Z1 : List Int) : Prop := ((l0_4.length = 8 ∧ l0_5.length = 8 ∧ l0_6.length = 2 ∧ l1_4.length = 8 ∧ l1_5.length = 8 ∧ l1_6.length = 2) ∧ (HZ.length = 8 ∧ Z0.length = 4 ∧ Z1.length = 4) ∧ (List.zipWith hi2 l0_5 l1_5).length = 8 ∧ ∀ i, i < 8 → spec_l1Max.f (l0_5.getD i 0) (l1_5.getD i 0) = some ((List.zipWith hi2 l0_5 l1_5).getD i 0))
instance (l0_4 l0_5 : List Int) (l0_6 : List (List Int)) (l1_4 l1_5 : List Int) (l1_6 : List (List Int)) (HZ Z0 Z1 : List Int) : Decidable (spec_l3Merge.G l0_4 l0_5 l0_6 l1_4 l1_5 l1_6 HZ Z0 Z1) := by unfold spec_l3Merge.G; infer_instance
def spec_l3Merge.lo (c lo c' lo' lm : Int) : Int := if c' = 0 then lo else if c = 0 then lo' else lm
def spec_l3Merge.f (k : Nat) (a0_0 : Int) (a0_1 : Int) (a0_2 : Int) (a0_3 : Int) (l0_4 : List Int) (l0_5 : List Int) (l0_6 : List (List Int)) (a1_0 : Int) (a1_1 : Int) (a1_2 : Int) (a1_3 : Int) (l1_4 : List Int) (l1_5 : List Int) (l1_6 : List (List Int)) : Option (Int × Int × Int × Int × List Int × List Int × (List (List Int))) := (spec_Add.f a0_0 a1_0).bind fun CA => (spec_Add.f a0_1 a1_1).bind fun CS => (spec_l1Min.f a0_2 a1_2).bind fun LM => (spec_l1Max.f a0_3 a1_3).bind fun HM => (spec_l3Sum.f k l0_4 l1_4).bind fun HZ => (spec_l3Sum.f k (l0_6.getD 0 []) (l1_6.getD 0 [])).bind fun Z0 => (spec_l3Sum.f k (l0_6.getD 1 []) (l1_6.getD 1 [])).bind fun Z1 => if spec_l3Merge.G l0_4 l0_5 l0_6 l1_4 l1_5 l1_6 HZ Z0 Z1 then some (CA, CS, spec_l3Merge.lo a0_0 a0_2 a1_0 a1_2 LM, HM, HZ, List.zipWith hi2 l0_5 l1_5, [Z0, Z1]) else none
theorem spec_l3Merge.mono : ∀ a0_0 a0_1 a0_2 a0_3 l0_4 l0_5 l0_6 a1_0 a1_1 a1_2 a1_3 l1_4 l1_5 l1_6 k, LeO (spec_l3Merge.f k a0_0 a0_1 a0_2 a0_3 l0_4 l0_5 l0_6 a1_0 a1_1 a1_2 a1_3 l1_4 l1_5 l1_6) (spec_l3Merge.f (k + 1) a0_0 a0_1 a0_2 a0_3 l0_4 l0_5 l0_6 a1_0 a1_1 a1_2 a1_3 l1_4 l1_5 l1_6) := by
 intro a0_0 a0_1 a0_2 a0_3 l0_4 l0_5 l0_6 a1_0 a1_1 a1_2 a1_3 l1_4 l1_5 l1_6 k
 unfold spec_l3Merge.f
 exact LeO.bind (LeO.refl _) (fun _ => LeO.bind (LeO.refl _) (fun _ => LeO.bind (LeO.refl _) (fun _ => LeO.bind (LeO.refl _) (fun _ => LeO.bind (spec_l3Sum.mono _ _ _) (fun _ => LeO.bind (spec_l3Sum.mono _ _ _) (fun _ => LeO.bind (spec_l3Sum.mono _ _ _) (fun _ => LeO.refl _)))))))
theorem spec_l3Merge.calls (k : Nat) (a0_0 : Int) (a0_1 : Int) (a0_2 : Int) (a0_3 : Int) (A0_4 : Option Addr) (c0_4 : Nat) (l0_4 : List Int) (A0_5 : Option Addr) (c0_5 : Nat) (l0_5 : List Int) (A0_6 : Option Addr) (c0_6 : Nat) (l0_6 : List (List Int)) (a1_0 : Int) (a1_1 : Int) (a1_2 : Int) (a1_3 : Int) (A1_4 : Option Addr) (c1_4 : Nat) (l1_4 : List Int) (A1_5 : Option Addr) (c1_5 : Nat) (l1_5 : List Int) (A1_6 : Option Addr) (c1_6 : Nat) (l1_6 : List (List Int)) (r1 : Int) (r2 : Int) (r3 : Int) (r4 : Int) (r5 : List Int) (r6 : List Int) (r7 : List (List Int)) (w : World) (hr0_4 : Kd.C (Kd.int .i64) w A0_4 l0_4.length l0_4) (hc0_4 : l0_4.length ≤ c0_4) (hr0_5 : Kd.C (Kd.int .i64) w A0_5 l0_5.length l0_5) (hc0_5 : l0_5.length ≤ c0_5) (hr0_6 : Kd.C (Kd.slice 3 (Kd.int .i64)) w A0_6 l0_6.length l0_6) (hc0_6 : l0_6.length ≤ c0_6) (hr1_4 : Kd.C (Kd.int .i64) w A1_4 l1_4.length l1_4) (hc1_4 : l1_4.length ≤ c1_4) (hr1_5 : Kd.C (Kd.int .i64) w A1_5 l1_5.length l1_5) (hc1_5 : l1_5.length ≤ c1_5) (hr1_6 : Kd.C (Kd.slice 3 (Kd.int .i64)) w A1_6 l1_6.length l1_6) (hc1_6 : l1_6.length ≤ c1_6) (h : spec_l3Merge.f k a0_0 a0_1 a0_2 a0_3 l0_4 l0_5 l0_6 a1_0 a1_1 a1_2 a1_3 l1_4 l1_5 l1_6 = some (r1, r2, r3, r4, r5, r6, r7)) :
  Calls Try.prog 94 #[.agg #[.int .i64 a0_0, .int .i64 a0_1, .int .i64 a0_2, .int .i64 a0_3, .slice A0_4 l0_4.length c0_4, .slice A0_5 l0_5.length c0_5, .slice A0_6 l0_6.length c0_6], .agg #[.int .i64 a1_0, .int .i64 a1_1, .int .i64 a1_2, .int .i64 a1_3, .slice A1_4 l1_4.length c1_4, .slice A1_5 l1_5.length c1_5, .slice A1_6 l1_6.length c1_6]] w fun e w' => ∃ v4_ v5_ v6_ : Value, e = .returned (.agg #[.int .i64 r1, .int .i64 r2, .int .i64 r3, .int .i64 r4, v4_, v5_, v6_]) ∧ Kd.R (Kd.int .i64) 3 w' w.heap.size (fun k_ => (w.heap.size ≤ k_) ∧ some k_ ≠ (v5_ : Value).ownBlock) v4_ r5 ∧ Kd.R (Kd.int .i64) 3 w' w.heap.size (fun k_ => (w.heap.size ≤ k_) ∧ some k_ ≠ (v4_ : Value).ownBlock) v5_ r6 ∧ Kd.N (Kd.slice 3 (Kd.int .i64)) 24 w' w.heap.size (fun k_ => (w.heap.size ≤ k_) ∧ some k_ ≠ (v4_ : Value).ownBlock ∧ some k_ ≠ (v5_ : Value).ownBlock) v6_ r7 ∧ Below w.heap.size w w' := by
 have u : Rd w ⟨A0_4, l0_4.length, c0_4⟩ ⟨A0_5, l0_5.length, c0_5⟩ ⟨A0_6, l0_6.length, c0_6⟩ l0_4 l0_5 l0_6 := ⟨rfl, rfl, rfl, hc0_4, hc0_5, hc0_6, hr0_4, hr0_5, hr0_6⟩
 have u' : Rd w ⟨A1_4, l1_4.length, c1_4⟩ ⟨A1_5, l1_5.length, c1_5⟩ ⟨A1_6, l1_6.length, c1_6⟩ l1_4 l1_5 l1_6 := ⟨rfl, rfl, rfl, hc1_4, hc1_5, hc1_6, hr1_4, hr1_5, hr1_6⟩
 unfold spec_l3Merge.f at h
 obtain ⟨CA, h1, h⟩ := Option.bind_eq_some_iff.mp h
 obtain ⟨CS, h2, h⟩ := Option.bind_eq_some_iff.mp h
 obtain ⟨LM, h3, h⟩ := Option.bind_eq_some_iff.mp h
 obtain ⟨HM, h4, h⟩ := Option.bind_eq_some_iff.mp h
 obtain ⟨HZ, h5, h⟩ := Option.bind_eq_some_iff.mp h
 obtain ⟨Z0, h6, h⟩ := Option.bind_eq_some_iff.mp h
 obtain ⟨Z1, h7, h⟩ := Option.bind_eq_some_iff.mp h
 by_cases g : spec_l3Merge.G l0_4 l0_5 l0_6 l1_4 l1_5 l1_6 HZ Z0 Z1
 ·rw [if_pos g] at h
  simp only [Option.some.injEq, Prod.mk.injEq] at h
  obtain ⟨rfl, rfl, rfl, rfl, rfl, rfl, rfl⟩ := h
  obtain ⟨g1, g2, g3, g4⟩ := g
  have q1 : ((a0_0 == 0) = true ∧ (if a0_0 = 0 then a1_2 else LM) = a1_2) ∨ ((a0_0 == 0) = false ∧ (if a0_0 = 0 then a1_2 else LM) = LM) := by
   by_cases e : a0_0 = 0
   ·exact .inl ⟨by simp [e], if_pos e⟩
   ·exact .inr ⟨by simp [e], if_neg e⟩
  have q2 : ((a1_0 == 0) = true ∧ spec_l3Merge.lo a0_0 a0_2 a1_0 a1_2 LM = a0_2) ∨ ((a1_0 == 0) = false ∧ spec_l3Merge.lo a0_0 a0_2 a1_0 a1_2 LM = (if a0_0 = 0 then a1_2 else LM)) := by
   unfold spec_l3Merge.lo
   by_cases e : a1_0 = 0
   ·exact .inl ⟨by simp [e], if_pos e⟩
   ·exact .inr ⟨by simp [e], if_neg e⟩
  refine (spec_l3Merge.walk k _ _ _ _ _ _ _ _ w u u' ⟨g1⟩ _ _ _ _ ⟨h1⟩ ⟨h2⟩ ⟨h3⟩ ⟨h4⟩ _ _ _ ⟨h5⟩ ⟨h6⟩ ⟨h7⟩ _ _ ⟨q1⟩ ⟨q2⟩ _ ⟨g3, g4⟩ g2).mono ?_
  rintro e w' ⟨x, y, z, a, b, rfl, hs, hm, hb⟩
  obtain ⟨k1, k2, k3⟩ := hs.kd hm.1
  refine ⟨_, _, _, rfl, Kd.R_mono (Kd.R_bound k1) (fun _ hk => ⟨hk.2.1, hk.1⟩), Kd.R_mono (Kd.R_bound k2) (fun _ hk => ⟨hk.2.1, hk.1⟩), Kd.S_N (Kd.S_mono (Kd.S_bound k3) (fun _ hk => ⟨hk.2.1, hk.1⟩)), hb⟩
 ·rw [if_neg g] at h
  cases h



def laws_szIntS.f (l0 : List Int) (a1 : Int) : Option (Int) := if (wrap64 (a1 - (l0.length : Int))) < 0 then (some (-1)) else (some (wrap64 (a1 - (l0.length : Int))))
set_option maxHeartbeats 8000000 in
set_option maxRecDepth 100000 in
theorem laws_szIntS.calls (A0 : Option Addr) (c0 : Nat) (l0 : List Int) (a1 : Int) (r : Int) (w : World) (hr0 : Kd.C (Kd.int .i64) w A0 l0.length l0) (hc0 : l0.length ≤ c0) (h : laws_szIntS.f l0 a1 = some r) :
  Calls Try.prog 75 #[.slice A0 l0.length c0, .int .i64 a1] w fun e w' => e = .returned (.int .i64 r) ∧ Drawn0 w w' := by
 have HR0 := Aside0.mk hr0
 have HC0 := Aside0.mk hc0
 clear hr0 hc0
 have H : (if (wrap64 (a1 - (l0.length : Int))) < 0 then (some (-1)) else (some (wrap64 (a1 - (l0.length : Int))))) = some r := h
 clear h
 by_cases c3 : (wrap64 (a1 - (l0.length : Int))) < 0
 ·rw [if_pos c3] at H
  have c3b0 : decide ((wrap64 (a1 - (l0.length : Int))) < 0) = true := decide_eq_true c3
  (try (have c3b1 : decide ((IntKind.i64.wrap (a1 - (l0.length : Int))) < 0) = true := by simp only [i64_w]; first | exact decide_eq_true c3 | simpa using c3))
  clear c3
  obtain rfl := Option.some.inj H
  simp only [Option.some.injEq, Prod.mk.injEq] at H
  obtain ⟨rfl⟩ := H
  go_enter Try.func75, Try.ntmps75
  go_wp2
  go_ret
  exact ⟨Z13x7, Z13x6⟩
 ·rw [if_neg c3] at H
  have c3b0 : decide ((wrap64 (a1 - (l0.length : Int))) < 0) = false := decide_eq_false c3
  (try (have c3b1 : decide ((IntKind.i64.wrap (a1 - (l0.length : Int))) < 0) = false := by simp only [i64_w]; first | exact decide_eq_false c3 | simpa using c3))
  clear c3
  obtain rfl := Option.some.inj H
  simp only [Option.some.injEq, Prod.mk.injEq] at H
  obtain ⟨rfl⟩ := H
  go_enter Try.func75, Try.ntmps75
  go_wp2
  go_ret
  exact ⟨Z13x7, Z13x6⟩

def laws_szIntSS.l0 : Nat → List (List Int) → Int → Int → Option (Int)
 | 0, _, _, _ => none
 | k + 1, x0, x1, x5 => if x5 < (x0.length : Int) then (if 0 ≤ x5 then ((laws_szIntS.f (rd_L2 x0 x5) x1).bind fun t325 => (if t325 < 0 then (some (-1)) else (laws_szIntSS.l0 k x0 t325 (wrap64 (x5 + 1))))) else (none)) else (some x1)
def laws_szIntSS.f (k : Nat) (l0 : List (List Int)) (a1 : Int) : Option (Int) := if (wrap64 (a1 - (l0.length : Int))) < 0 then (some (-1)) else (laws_szIntSS.l0 k l0 (wrap64 (a1 - (l0.length : Int))) 0)
theorem laws_szIntSS.mono_l : ∀ k, (∀ y0 y1 y2, LeO (laws_szIntSS.l0 k y0 y1 y2) (laws_szIntSS.l0 (k + 1) y0 y1 y2))
 | 0 => fun _ _ _ r h => by simp [laws_szIntSS.l0] at h
 | k + 1 => by
  have ih0 := laws_szIntSS.mono_l k
  ·intro y0 y1 y2
   unfold laws_szIntSS.l0
   repeat' first
   | (with_reducible exact ih0 _ _ _)
   | (with_reducible exact LeO.refl _)
   | (with_reducible exact LeO.none _)
   | (with_reducible refine LeO.ite ?_ ?_)
   | (with_reducible refine LeO.bind ?_ (fun _ => ?_))
   | exact ih0 _ _ _
   | exact LeO.none _
   | refine LeO.ite ?_ ?_
   | refine LeO.bind ?_ (fun _ => ?_)
theorem laws_szIntSS.mono : ∀ a0 a1 k, LeO (laws_szIntSS.f k a0 a1) (laws_szIntSS.f (k + 1) a0 a1) := by
 intro a0 a1 k
 have ih0 := laws_szIntSS.mono_l k
 unfold laws_szIntSS.f
 repeat' first
   | (with_reducible exact ih0 _ _ _)
   | (with_reducible exact LeO.refl _)
   | (with_reducible exact LeO.none _)
   | (with_reducible refine LeO.ite ?_ ?_)
   | (with_reducible refine LeO.bind ?_ (fun _ => ?_))
   | exact ih0 _ _ _
   | exact LeO.none _
   | refine LeO.ite ?_ ?_
   | refine LeO.bind ?_ (fun _ => ?_)
set_option maxHeartbeats 8000000 in
set_option maxRecDepth 100000 in
theorem laws_szIntSS.calls (k : Nat) (A0 : Option Addr) (c0 : Nat) (l0 : List (List Int)) (a1 : Int) (r : Int) (w : World) (hr0 : Kd.C (Kd.slice 3 (Kd.int .i64)) w A0 l0.length l0) (hc0 : l0.length ≤ c0) (h : laws_szIntSS.f k l0 a1 = some r) :
  Calls Try.prog 76 #[.slice A0 l0.length c0, .int .i64 a1] w fun e w' => e = .returned (.int .i64 r) ∧ Drawn0 w w' := by
 have HR0 := Aside0.mk hr0
 have HC0 := Aside0.mk hc0
 clear hr0 hc0
 have H : (if (wrap64 (a1 - (l0.length : Int))) < 0 then (some (-1)) else (laws_szIntSS.l0 k l0 (wrap64 (a1 - (l0.length : Int))) 0)) = some r := h
 clear h
 by_cases c3 : (wrap64 (a1 - (l0.length : Int))) < 0
 ·rw [if_pos c3] at H
  have c3b0 : decide ((wrap64 (a1 - (l0.length : Int))) < 0) = true := decide_eq_true c3
  (try (have c3b1 : decide ((IntKind.i64.wrap (a1 - (l0.length : Int))) < 0) = true := by simp only [i64_w]; first | exact decide_eq_true c3 | simpa using c3))
  clear c3
  obtain rfl := Option.some.inj H
  simp only [Option.some.injEq, Prod.mk.injEq] at H
  obtain ⟨rfl⟩ := H
  go_enter Try.func76, Try.ntmps76
  go_wp2
  go_ret
  exact ⟨Z13x7, Z13x6⟩
 ·rw [if_neg c3] at H
  have c3b0 : decide ((wrap64 (a1 - (l0.length : Int))) < 0) = false := decide_eq_false c3
  (try (have c3b1 : decide ((IntKind.i64.wrap (a1 - (l0.length : Int))) < 0) = false := by simp only [i64_w]; first | exact decide_eq_false c3 | simpa using c3))
  clear c3
  have H' := Aside0.mk H
  clear H
  go_enter Try.func76, Try.ntmps76
  go_wp2
  go_loopg [1, 5] k (fun kq v1 v5 w' => ∃ (x1_1 : Int) (x5_1 : Int), v1 = .int .i64 x1_1 ∧ v5 = .int .i64 x5_1 ∧ Aside0 (laws_szIntSS.l0 kq l0 x1_1 x5_1 = some r) ∧ Aside0 (kq ≤ k) ∧ Drawn0 w w')
  case atStart => exact ⟨(wrap64 (a1 - (l0.length : Int))), (0), Z13x7, Z13x7, H', ⟨Nat.le_refl _⟩, Z13x6⟩
  case round =>
   clear H'
   try clear p2
   try clear c3
   try clear c3b0
   try clear c3b1
   obtain ⟨x1_1, x5_1, rfl, rfl, HA, HK1, ⟨m1, rfl⟩⟩ := hrel
   cases gk with
   | zero => exact absurd HA.out (by simp [laws_szIntSS.l0])
   | succ k1 =>
    have H := HA.out;clear HA;simp only [laws_szIntSS.l0] at H
    by_cases c4 : x5_1 < (l0.length : Int)
    ·rw [if_pos c4] at H
     have c4b0 : decide (x5_1 < (l0.length : Int)) = true := decide_eq_true c4;clear c4
     by_cases c5 : 0 ≤ x5_1
     ·rw [if_pos c5] at H
      have c5b0 : decide (0 ≤ x5_1) = true := decide_eq_true c5;clear c5;replace H := Option.bind_eq_some_iff.mp H;obtain ⟨t325, A60, H⟩ := H;replace H : (if t325 < 0 then (some (-1)) else (laws_szIntSS.l0 k1 l0 t325 (wrap64 (x5_1 + 1)))) = some r := H;have A6 := Aside0.mk A60;clear A60
      by_cases c7 : t325 < 0
      ·rw [if_pos c7] at H
       have c7b0 : decide (t325 < 0) = true := decide_eq_true c7;clear c7;obtain rfl := Option.some.inj H;simp only [Option.some.injEq, Prod.mk.injEq] at H;obtain ⟨rfl⟩ := H;have p324 : 0 ≤ (x5_1 : Int) := of_decide_eq_true (by first | (with_reducible assumption) | assumption);have q324 : x5_1 < (l0.length : Int) := of_decide_eq_true (by first | (with_reducible assumption) | assumption);obtain ⟨ad324, A324_0, c324_0, e324, hx324_0, hl324_0, hi324_0⟩ := at_L2 HR0.out x5_1 p324 q324
       cases e324
       have HR324_0 := Aside0.mk hi324_0;have HC324_0 := Aside0.mk hl324_0;clear hi324_0 hl324_0;replace p324 := eq_true p324;replace q324 := eq_true q324
       go_wp2_with (first | ((with_reducible refine gate_callee (f := 75) rfl ?_); refine goesL_ (some 23) rfl rfl Try.func75 (by kernel_rfl) rfl #[.slice A324_0 (rd_L2 l0 x5_1).length c324_0, .int .i64 x1_1] rfl Z13x1 ?_; (with_reducible refine (laws_szIntS.calls _ _ (rd_L2 l0 x5_1) x1_1 t325 _ ?side1 ?side2 A6.out).mono ?_); (case side1 => repeat (first | exact HR324_0.out | (with_reducible refine Kd.C_alloc ?_ _) | (with_reducible refine Kd.C_drewN ?_ _) | (with_reducible refine Kd.C_drew ?_))); (case side2 => exact HC324_0.out); rintro e w' ⟨rfl, ⟨nd, rfl⟩⟩; refine ⟨_, rfl, ?_⟩))
       go_ret
       exact ⟨Z13x7, Z13x6⟩
      ·rw [if_neg c7] at H
       have c7b0 : decide (t325 < 0) = false := decide_eq_false c7;clear c7;have H' := Aside0.mk H;clear H;have p324 : 0 ≤ (x5_1 : Int) := of_decide_eq_true (by first | (with_reducible assumption) | assumption);have q324 : x5_1 < (l0.length : Int) := of_decide_eq_true (by first | (with_reducible assumption) | assumption);obtain ⟨ad324, A324_0, c324_0, e324, hx324_0, hl324_0, hi324_0⟩ := at_L2 HR0.out x5_1 p324 q324
       cases e324
       have HR324_0 := Aside0.mk hi324_0;have HC324_0 := Aside0.mk hl324_0;clear hi324_0 hl324_0;replace p324 := eq_true p324;replace q324 := eq_true q324
       go_wp2_with (first | ((with_reducible refine gate_callee (f := 75) rfl ?_); refine goesL_ (some 23) rfl rfl Try.func75 (by kernel_rfl) rfl #[.slice A324_0 (rd_L2 l0 x5_1).length c324_0, .int .i64 x1_1] rfl Z13x1 ?_; (with_reducible refine (laws_szIntS.calls _ _ (rd_L2 l0 x5_1) x1_1 t325 _ ?side1 ?side2 A6.out).mono ?_); (case side1 => repeat (first | exact HR324_0.out | (with_reducible refine Kd.C_alloc ?_ _) | (with_reducible refine Kd.C_drewN ?_ _) | (with_reducible refine Kd.C_drew ?_))); (case side2 => exact HC324_0.out); rintro e w' ⟨rfl, ⟨nd, rfl⟩⟩; refine ⟨_, rfl, ?_⟩))
       go_roundg k1
       case measure => have := HK1.out; omega
       case rel => exact ⟨(t325), (wrap64 (x5_1 + 1)), Z13x7, Z13x7, H', ⟨by have := HK1.out; omega⟩, Z13x6⟩
     ·rw [if_neg c5] at H
      exact absurd H (by simp)
    ·rw [if_neg c4] at H
     have c4b0 : decide (x5_1 < (l0.length : Int)) = false := decide_eq_false c4;clear c4;obtain rfl := Option.some.inj H;simp only [Option.some.injEq, Prod.mk.injEq] at H;obtain ⟨rfl⟩ := H
     go_wp2
     go_ret
     exact ⟨Z13x7, Z13x6⟩

def laws_szSketch.f (k : Nat) (a0_0 : Int) (a0_1 : Int) (a0_2 : Int) (a0_3 : Int) (l0_4 : List Int) (l0_5 : List Int) (l0_6 : List (List Int)) (a1 : Int) : Option (Int) := (laws_szIntS.f l0_4 a1).bind fun t327 => (if t327 < 0 then (some (-1)) else ((laws_szIntS.f l0_5 t327).bind fun t328 => (if t328 < 0 then (some (-1)) else ((laws_szIntSS.f k l0_6 t328).bind fun t329 => (if t329 < 0 then (some (-1)) else (some t329))))))
theorem laws_szSketch.mono : ∀ a0 a1 a2 a3 a4 a5 a6 a7 k, LeO (laws_szSketch.f k a0 a1 a2 a3 a4 a5 a6 a7) (laws_szSketch.f (k + 1) a0 a1 a2 a3 a4 a5 a6 a7) := by
 intro a0 a1 a2 a3 a4 a5 a6 a7 k
 unfold laws_szSketch.f
 repeat' first
   | (with_reducible exact laws_szIntSS.mono _ _ _)
   | (with_reducible exact LeO.refl _)
   | (with_reducible exact LeO.none _)
   | (with_reducible refine LeO.ite ?_ ?_)
   | (with_reducible refine LeO.bind ?_ (fun _ => ?_))
   | exact laws_szIntSS.mono _ _ _
   | exact LeO.none _
   | refine LeO.ite ?_ ?_
   | refine LeO.bind ?_ (fun _ => ?_)
set_option maxHeartbeats 8000000 in
set_option maxRecDepth 100000 in
theorem laws_szSketch.calls (k : Nat) (a0_0 : Int) (a0_1 : Int) (a0_2 : Int) (a0_3 : Int) (A0_4 : Option Addr) (c0_4 : Nat) (l0_4 : List Int) (A0_5 : Option Addr) (c0_5 : Nat) (l0_5 : List Int) (A0_6 : Option Addr) (c0_6 : Nat) (l0_6 : List (List Int)) (a1 : Int) (r : Int) (w : World) (hr0_4 : Kd.C (Kd.int .i64) w A0_4 l0_4.length l0_4) (hc0_4 : l0_4.length ≤ c0_4) (hr0_5 : Kd.C (Kd.int .i64) w A0_5 l0_5.length l0_5) (hc0_5 : l0_5.length ≤ c0_5) (hr0_6 : Kd.C (Kd.slice 3 (Kd.int .i64)) w A0_6 l0_6.length l0_6) (hc0_6 : l0_6.length ≤ c0_6) (h : laws_szSketch.f k a0_0 a0_1 a0_2 a0_3 l0_4 l0_5 l0_6 a1 = some r) :
  Calls Try.prog 49 #[.agg #[.int .i64 a0_0, .int .i64 a0_1, .int .i64 a0_2, .int .i64 a0_3, .slice A0_4 l0_4.length c0_4, .slice A0_5 l0_5.length c0_5, .slice A0_6 l0_6.length c0_6], .int .i64 a1] w fun e w' => e = .returned (.int .i64 r) ∧ Below w.heap.size w w' := by
 have hu45 := Try.underlying45
 have HR0_4 := Aside0.mk hr0_4
 have HC0_4 := Aside0.mk hc0_4
 clear hr0_4 hc0_4
 have HR0_5 := Aside0.mk hr0_5
 have HC0_5 := Aside0.mk hc0_5
 clear hr0_5 hc0_5
 have HR0_6 := Aside0.mk hr0_6
 have HC0_6 := Aside0.mk hc0_6
 clear hr0_6 hc0_6
 have HB := Aside0.mk (Below.refl w.heap.size w)
 have H : ((laws_szIntS.f l0_4 a1).bind fun t327 => (if t327 < 0 then (some (-1)) else ((laws_szIntS.f l0_5 t327).bind fun t328 => (if t328 < 0 then (some (-1)) else ((laws_szIntSS.f k l0_6 t328).bind fun t329 => (if t329 < 0 then (some (-1)) else (some t329))))))) = some r := h
 clear h
 replace H := Option.bind_eq_some_iff.mp H
 obtain ⟨t327, A30, H⟩ := H
 replace H : (if t327 < 0 then (some (-1)) else ((laws_szIntS.f l0_5 t327).bind fun t328 => (if t328 < 0 then (some (-1)) else ((laws_szIntSS.f k l0_6 t328).bind fun t329 => (if t329 < 0 then (some (-1)) else (some t329)))))) = some r := H
 have A3 := Aside0.mk A30
 clear A30
 by_cases c4 : t327 < 0
 ·rw [if_pos c4] at H
  have c4b0 : decide (t327 < 0) = true := decide_eq_true c4
  clear c4
  obtain rfl := Option.some.inj H
  simp only [Option.some.injEq, Prod.mk.injEq] at H
  obtain ⟨rfl⟩ := H
  go_enter Try.func49, Try.ntmps49
  go_wp2_with (first | ((with_reducible refine gate_dst (N := 2) rfl ?_); refine box_event ?hg (N := 2) ?hd (cs := #[.int .i64 a0_0, .int .i64 a0_1, .int .i64 a0_2, .int .i64 a0_3, .slice A0_4 l0_4.length c0_4, .slice A0_5 l0_5.length c0_5, .slice A0_6 l0_6.length c0_6]) (t := 45) ?hr ?_; (case hd => rfl); (case hg => rfl); (case hr => first | (go_simp; done) | (go_simp; rfl)); intro gb326 hg w5 hbox hb; have n0_ := Aside0.mk (below_step Z13x0 hb); have n1_ := Aside0.mk (hbox); have n2_ := Aside0.mk ((Z13x8 : w.heap.size ≤ gb326)); have n3_ := Aside0.mk ((Z13x8 : w.heap.size ≤ gb326)); clear HB; have HB := n0_; have BK326 := n1_; have GW326 := n2_; have GE326 := n3_; clear n0_ n1_ n2_ n3_; clear hb hbox hg; obtain ⟨hcz6_0, hcz6_1, hcz6_2, hcz6_3, hcz6_4, hcz6_5, hcz6_6⟩ := cz7 BK326.out; obtain ⟨hfz6_0, hfz6_1, hfz6_2, hfz6_3, hfz6_4, hfz6_5, hfz6_6⟩ := fz7 BK326.out) | ((with_reducible refine gate_callee (f := 75) rfl ?_); refine goesL_ (some 8) rfl rfl Try.func75 (by kernel_rfl) rfl #[.slice A0_4 l0_4.length c0_4, .int .i64 a1] rfl Z13x1 ?_; (with_reducible refine (laws_szIntS.calls _ _ l0_4 a1 t327 _ ?side1 ?side2 A3.out).mono ?_); (case side1 => exact Z13x5); (case side2 => exact HC0_4.out); rintro e w' ⟨rfl, ⟨nd, rfl⟩⟩; refine ⟨_, rfl, ?_⟩))
  go_ret
  exact ⟨Z13x4, Z13x3⟩
 ·rw [if_neg c4] at H
  have c4b0 : decide (t327 < 0) = false := decide_eq_false c4
  clear c4
  replace H := Option.bind_eq_some_iff.mp H
  obtain ⟨t328, A70, H⟩ := H
  replace H : (if t328 < 0 then (some (-1)) else ((laws_szIntSS.f k l0_6 t328).bind fun t329 => (if t329 < 0 then (some (-1)) else (some t329)))) = some r := H
  have A7 := Aside0.mk A70
  clear A70
  by_cases c8 : t328 < 0
  ·rw [if_pos c8] at H
   have c8b0 : decide (t328 < 0) = true := decide_eq_true c8
   clear c8
   obtain rfl := Option.some.inj H
   simp only [Option.some.injEq, Prod.mk.injEq] at H
   obtain ⟨rfl⟩ := H
   go_enter Try.func49, Try.ntmps49
   go_wp2_with (first | ((with_reducible refine gate_dst (N := 2) rfl ?_); refine box_event ?hg (N := 2) ?hd (cs := #[.int .i64 a0_0, .int .i64 a0_1, .int .i64 a0_2, .int .i64 a0_3, .slice A0_4 l0_4.length c0_4, .slice A0_5 l0_5.length c0_5, .slice A0_6 l0_6.length c0_6]) (t := 45) ?hr ?_; (case hd => rfl); (case hg => rfl); (case hr => first | (go_simp; done) | (go_simp; rfl)); intro gb326 hg w9 hbox hb; have n0_ := Aside0.mk (below_step Z13x0 hb); have n1_ := Aside0.mk (hbox); have n2_ := Aside0.mk ((Z13x8 : w.heap.size ≤ gb326)); have n3_ := Aside0.mk ((Z13x8 : w.heap.size ≤ gb326)); clear HB; have HB := n0_; have BK326 := n1_; have GW326 := n2_; have GE326 := n3_; clear n0_ n1_ n2_ n3_; clear hb hbox hg; obtain ⟨hcz10_0, hcz10_1, hcz10_2, hcz10_3, hcz10_4, hcz10_5, hcz10_6⟩ := cz7 BK326.out; obtain ⟨hfz10_0, hfz10_1, hfz10_2, hfz10_3, hfz10_4, hfz10_5, hfz10_6⟩ := fz7 BK326.out) | ((with_reducible refine gate_callee (f := 75) rfl ?_); refine goesL_ (some 8) rfl rfl Try.func75 (by kernel_rfl) rfl #[.slice A0_4 l0_4.length c0_4, .int .i64 a1] rfl Z13x1 ?_; (with_reducible refine (laws_szIntS.calls _ _ l0_4 a1 t327 _ ?side1 ?side2 A3.out).mono ?_); (case side1 => exact Z13x5); (case side2 => exact HC0_4.out); rintro e w' ⟨rfl, ⟨nd, rfl⟩⟩; refine ⟨_, rfl, ?_⟩) | ((with_reducible refine gate_callee (f := 75) rfl ?_); refine goesL_ (some 14) rfl rfl Try.func75 (by kernel_rfl) rfl #[.slice A0_5 l0_5.length c0_5, .int .i64 t327] rfl Z13x1 ?_; (with_reducible refine (laws_szIntS.calls _ _ l0_5 t327 t328 _ ?side1 ?side2 A7.out).mono ?_); (case side1 => exact Z13x10); (case side2 => exact HC0_5.out); rintro e w' ⟨rfl, ⟨nd, rfl⟩⟩; refine ⟨_, rfl, ?_⟩))
   go_ret
   exact ⟨Z13x4, Z13x3⟩
  ·rw [if_neg c8] at H
   have c8b0 : decide (t328 < 0) = false := decide_eq_false c8
   clear c8
   replace H := Option.bind_eq_some_iff.mp H
   obtain ⟨t329, A110, H⟩ := H
   replace H : (if t329 < 0 then (some (-1)) else (some t329)) = some r := H
   have A11 := Aside0.mk A110
   clear A110
   by_cases c12 : t329 < 0
   ·rw [if_pos c12] at H
    have c12b0 : decide (t329 < 0) = true := decide_eq_true c12;clear c12;obtain rfl := Option.some.inj H;simp only [Option.some.injEq, Prod.mk.injEq] at H;obtain ⟨rfl⟩ := H
    go_enter Try.func49, Try.ntmps49
    go_wp2_with (first | ((with_reducible refine gate_dst (N := 2) rfl ?_); refine box_event ?hg (N := 2) ?hd (cs := #[.int .i64 a0_0, .int .i64 a0_1, .int .i64 a0_2, .int .i64 a0_3, .slice A0_4 l0_4.length c0_4, .slice A0_5 l0_5.length c0_5, .slice A0_6 l0_6.length c0_6]) (t := 45) ?hr ?_; (case hd => rfl); (case hg => rfl); (case hr => first | (go_simp; done) | (go_simp; rfl)); intro gb326 hg w13 hbox hb; have n0_ := Aside0.mk (below_step Z13x0 hb); have n1_ := Aside0.mk (hbox); have n2_ := Aside0.mk ((Z13x8 : w.heap.size ≤ gb326)); have n3_ := Aside0.mk ((Z13x8 : w.heap.size ≤ gb326)); clear HB; have HB := n0_; have BK326 := n1_; have GW326 := n2_; have GE326 := n3_; clear n0_ n1_ n2_ n3_; clear hb hbox hg; obtain ⟨hcz14_0, hcz14_1, hcz14_2, hcz14_3, hcz14_4, hcz14_5, hcz14_6⟩ := cz7 BK326.out; obtain ⟨hfz14_0, hfz14_1, hfz14_2, hfz14_3, hfz14_4, hfz14_5, hfz14_6⟩ := fz7 BK326.out) | ((with_reducible refine gate_callee (f := 75) rfl ?_); refine goesL_ (some 8) rfl rfl Try.func75 (by kernel_rfl) rfl #[.slice A0_4 l0_4.length c0_4, .int .i64 a1] rfl Z13x1 ?_; (with_reducible refine (laws_szIntS.calls _ _ l0_4 a1 t327 _ ?side1 ?side2 A3.out).mono ?_); (case side1 => exact Z13x5); (case side2 => exact HC0_4.out); rintro e w' ⟨rfl, ⟨nd, rfl⟩⟩; refine ⟨_, rfl, ?_⟩) | ((with_reducible refine gate_callee (f := 75) rfl ?_); refine goesL_ (some 14) rfl rfl Try.func75 (by kernel_rfl) rfl #[.slice A0_5 l0_5.length c0_5, .int .i64 t327] rfl Z13x1 ?_; (with_reducible refine (laws_szIntS.calls _ _ l0_5 t327 t328 _ ?side1 ?side2 A7.out).mono ?_); (case side1 => exact Z13x10); (case side2 => exact HC0_5.out); rintro e w' ⟨rfl, ⟨nd, rfl⟩⟩; refine ⟨_, rfl, ?_⟩) | ((with_reducible refine gate_callee (f := 76) rfl ?_); refine goesL_ (some 20) rfl rfl Try.func76 (by kernel_rfl) rfl #[.slice A0_6 l0_6.length c0_6, .int .i64 t328] rfl Z13x1 ?_; (with_reducible refine (laws_szIntSS.calls k _ _ l0_6 t328 t329 _ ?side1 ?side2 A11.out).mono ?_); (case side1 => repeat (first | exact (Kd.C_below HR0_6.out Z13x3) | (with_reducible refine Kd.C_alloc ?_ _) | (with_reducible refine Kd.C_drewN ?_ _) | (with_reducible refine Kd.C_drew ?_))); (case side2 => exact HC0_6.out); rintro e w' ⟨rfl, ⟨nd, rfl⟩⟩; refine ⟨_, rfl, ?_⟩))
    go_ret
    exact ⟨Z13x4, Z13x3⟩
   ·rw [if_neg c12] at H
    have c12b0 : decide (t329 < 0) = false := decide_eq_false c12;clear c12;obtain rfl := Option.some.inj H;simp only [Option.some.injEq, Prod.mk.injEq] at H;obtain ⟨rfl⟩ := H
    go_enter Try.func49, Try.ntmps49
    go_wp2_with (first | ((with_reducible refine gate_dst (N := 2) rfl ?_); refine box_event ?hg (N := 2) ?hd (cs := #[.int .i64 a0_0, .int .i64 a0_1, .int .i64 a0_2, .int .i64 a0_3, .slice A0_4 l0_4.length c0_4, .slice A0_5 l0_5.length c0_5, .slice A0_6 l0_6.length c0_6]) (t := 45) ?hr ?_; (case hd => rfl); (case hg => rfl); (case hr => first | (go_simp; done) | (go_simp; rfl)); intro gb326 hg w15 hbox hb; have n0_ := Aside0.mk (below_step Z13x0 hb); have n1_ := Aside0.mk (hbox); have n2_ := Aside0.mk ((Z13x8 : w.heap.size ≤ gb326)); have n3_ := Aside0.mk ((Z13x8 : w.heap.size ≤ gb326)); clear HB; have HB := n0_; have BK326 := n1_; have GW326 := n2_; have GE326 := n3_; clear n0_ n1_ n2_ n3_; clear hb hbox hg; obtain ⟨hcz16_0, hcz16_1, hcz16_2, hcz16_3, hcz16_4, hcz16_5, hcz16_6⟩ := cz7 BK326.out; obtain ⟨hfz16_0, hfz16_1, hfz16_2, hfz16_3, hfz16_4, hfz16_5, hfz16_6⟩ := fz7 BK326.out) | ((with_reducible refine gate_callee (f := 75) rfl ?_); refine goesL_ (some 8) rfl rfl Try.func75 (by kernel_rfl) rfl #[.slice A0_4 l0_4.length c0_4, .int .i64 a1] rfl Z13x1 ?_; (with_reducible refine (laws_szIntS.calls _ _ l0_4 a1 t327 _ ?side1 ?side2 A3.out).mono ?_); (case side1 => exact Z13x5); (case side2 => exact HC0_4.out); rintro e w' ⟨rfl, ⟨nd, rfl⟩⟩; refine ⟨_, rfl, ?_⟩) | ((with_reducible refine gate_callee (f := 75) rfl ?_); refine goesL_ (some 14) rfl rfl Try.func75 (by kernel_rfl) rfl #[.slice A0_5 l0_5.length c0_5, .int .i64 t327] rfl Z13x1 ?_; (with_reducible refine (laws_szIntS.calls _ _ l0_5 t327 t328 _ ?side1 ?side2 A7.out).mono ?_); (case side1 => exact Z13x10); (case side2 => exact HC0_5.out); rintro e w' ⟨rfl, ⟨nd, rfl⟩⟩; refine ⟨_, rfl, ?_⟩) | ((with_reducible refine gate_callee (f := 76) rfl ?_); refine goesL_ (some 20) rfl rfl Try.func76 (by kernel_rfl) rfl #[.slice A0_6 l0_6.length c0_6, .int .i64 t328] rfl Z13x1 ?_; (with_reducible refine (laws_szIntSS.calls k _ _ l0_6 t328 t329 _ ?side1 ?side2 A11.out).mono ?_); (case side1 => repeat (first | exact (Kd.C_below HR0_6.out Z13x3) | (with_reducible refine Kd.C_alloc ?_ _) | (with_reducible refine Kd.C_drewN ?_ _) | (with_reducible refine Kd.C_drew ?_))); (case side2 => exact HC0_6.out); rintro e w' ⟨rfl, ⟨nd, rfl⟩⟩; refine ⟨_, rfl, ?_⟩))
    go_ret
    exact ⟨Z13x4, Z13x3⟩

def laws_szSpanS.f (l0 : List (S113)) (a1 : Int) : Option (Int) := if (wrap64 (a1 - (l0.length : Int))) < 0 then (some (-1)) else (some (wrap64 (a1 - (l0.length : Int))))
set_option maxHeartbeats 8000000 in
set_option maxRecDepth 100000 in
theorem laws_szSpanS.calls (A0 : Option Addr) (c0 : Nat) (l0 : List (S113)) (a1 : Int) (r : Int) (w : World) (hr0 : Kd.C k113 w A0 l0.length l0) (hc0 : l0.length ≤ c0) (h : laws_szSpanS.f l0 a1 = some r) :
  Calls Try.prog 66 #[.slice A0 l0.length c0, .int .i64 a1] w fun e w' => e = .returned (.int .i64 r) ∧ Drawn0 w w' := by
 have HR0 := Aside0.mk hr0
 have HC0 := Aside0.mk hc0
 clear hr0 hc0
 have H : (if (wrap64 (a1 - (l0.length : Int))) < 0 then (some (-1)) else (some (wrap64 (a1 - (l0.length : Int))))) = some r := h
 clear h
 by_cases c3 : (wrap64 (a1 - (l0.length : Int))) < 0
 ·rw [if_pos c3] at H
  have c3b0 : decide ((wrap64 (a1 - (l0.length : Int))) < 0) = true := decide_eq_true c3
  (try (have c3b1 : decide ((IntKind.i64.wrap (a1 - (l0.length : Int))) < 0) = true := by simp only [i64_w]; first | exact decide_eq_true c3 | simpa using c3))
  clear c3
  obtain rfl := Option.some.inj H
  simp only [Option.some.injEq, Prod.mk.injEq] at H
  obtain ⟨rfl⟩ := H
  go_enter Try.func66, Try.ntmps66
  go_wp2
  go_ret
  exact ⟨Z13x7, Z13x6⟩
 ·rw [if_neg c3] at H
  have c3b0 : decide ((wrap64 (a1 - (l0.length : Int))) < 0) = false := decide_eq_false c3
  (try (have c3b1 : decide ((IntKind.i64.wrap (a1 - (l0.length : Int))) < 0) = false := by simp only [i64_w]; first | exact decide_eq_false c3 | simpa using c3))
  clear c3
  obtain rfl := Option.some.inj H
  simp only [Option.some.injEq, Prod.mk.injEq] at H
  obtain ⟨rfl⟩ := H
  go_enter Try.func66, Try.ntmps66
  go_wp2
  go_ret
  exact ⟨Z13x7, Z13x6⟩

def laws_szEntry.f (k : Nat) (a0_0 : Int) (a0_1 : Int) (l0_2 : List (S113)) (a0_3 : Int) (a0_4 : Int) (a0_5 : Int) (a0_6 : Int) (l0_7 : List Int) (l0_8 : List Int) (l0_9 : List (List Int)) (a1 : Int) : Option (Int) := (laws_szSpanS.f l0_2 a1).bind fun t331 => (if t331 < 0 then (some (-1)) else ((laws_szSketch.f k a0_3 a0_4 a0_5 a0_6 l0_7 l0_8 l0_9 t331).bind fun t332 => (if t332 < 0 then (some (-1)) else (some t332))))
theorem laws_szEntry.mono : ∀ a0 a1 a2 a3 a4 a5 a6 a7 a8 a9 a10 k, LeO (laws_szEntry.f k a0 a1 a2 a3 a4 a5 a6 a7 a8 a9 a10) (laws_szEntry.f (k + 1) a0 a1 a2 a3 a4 a5 a6 a7 a8 a9 a10) := by
 intro a0 a1 a2 a3 a4 a5 a6 a7 a8 a9 a10 k
 unfold laws_szEntry.f
 repeat' first
   | (with_reducible exact laws_szSketch.mono _ _ _ _ _ _ _ _ _)
   | (with_reducible exact LeO.refl _)
   | (with_reducible exact LeO.none _)
   | (with_reducible refine LeO.ite ?_ ?_)
   | (with_reducible refine LeO.bind ?_ (fun _ => ?_))
   | exact laws_szSketch.mono _ _ _ _ _ _ _ _ _
   | exact LeO.none _
   | refine LeO.ite ?_ ?_
   | refine LeO.bind ?_ (fun _ => ?_)
set_option maxHeartbeats 8000000 in
set_option maxRecDepth 100000 in
theorem laws_szEntry.calls (k : Nat) (a0_0 : Int) (a0_1 : Int) (A0_2 : Option Addr) (c0_2 : Nat) (l0_2 : List (S113)) (a0_3 : Int) (a0_4 : Int) (a0_5 : Int) (a0_6 : Int) (A0_7 : Option Addr) (c0_7 : Nat) (l0_7 : List Int) (A0_8 : Option Addr) (c0_8 : Nat) (l0_8 : List Int) (A0_9 : Option Addr) (c0_9 : Nat) (l0_9 : List (List Int)) (a1 : Int) (r : Int) (w : World) (hr0_2 : Kd.C k113 w A0_2 l0_2.length l0_2) (hc0_2 : l0_2.length ≤ c0_2) (hr0_7 : Kd.C (Kd.int .i64) w A0_7 l0_7.length l0_7) (hc0_7 : l0_7.length ≤ c0_7) (hr0_8 : Kd.C (Kd.int .i64) w A0_8 l0_8.length l0_8) (hc0_8 : l0_8.length ≤ c0_8) (hr0_9 : Kd.C (Kd.slice 3 (Kd.int .i64)) w A0_9 l0_9.length l0_9) (hc0_9 : l0_9.length ≤ c0_9) (h : laws_szEntry.f k a0_0 a0_1 l0_2 a0_3 a0_4 a0_5 a0_6 l0_7 l0_8 l0_9 a1 = some r) :
  Calls Try.prog 31 #[.agg #[.int .i64 a0_0, .int .i64 a0_1, .slice A0_2 l0_2.length c0_2, .int .i64 a0_3, .int .i64 a0_4, .int .i64 a0_5, .int .i64 a0_6, .slice A0_7 l0_7.length c0_7, .slice A0_8 l0_8.length c0_8, .slice A0_9 l0_9.length c0_9], .int .i64 a1] w fun e w' => e = .returned (.int .i64 r) ∧ Below w.heap.size w w' := by
 have hu61 := Try.underlying61
 have hu45 := Try.underlying45
 have HR0_2 := Aside0.mk hr0_2
 have HC0_2 := Aside0.mk hc0_2
 clear hr0_2 hc0_2
 have HR0_7 := Aside0.mk hr0_7
 have HC0_7 := Aside0.mk hc0_7
 clear hr0_7 hc0_7
 have HR0_8 := Aside0.mk hr0_8
 have HC0_8 := Aside0.mk hc0_8
 clear hr0_8 hc0_8
 have HR0_9 := Aside0.mk hr0_9
 have HC0_9 := Aside0.mk hc0_9
 clear hr0_9 hc0_9
 have HB := Aside0.mk (Below.refl w.heap.size w)
 have H : ((laws_szSpanS.f l0_2 a1).bind fun t331 => (if t331 < 0 then (some (-1)) else ((laws_szSketch.f k a0_3 a0_4 a0_5 a0_6 l0_7 l0_8 l0_9 t331).bind fun t332 => (if t332 < 0 then (some (-1)) else (some t332))))) = some r := h
 clear h
 replace H := Option.bind_eq_some_iff.mp H
 obtain ⟨t331, A30, H⟩ := H
 replace H : (if t331 < 0 then (some (-1)) else ((laws_szSketch.f k a0_3 a0_4 a0_5 a0_6 l0_7 l0_8 l0_9 t331).bind fun t332 => (if t332 < 0 then (some (-1)) else (some t332)))) = some r := H
 have A3 := Aside0.mk A30
 clear A30
 by_cases c4 : t331 < 0
 ·rw [if_pos c4] at H
  have c4b0 : decide (t331 < 0) = true := decide_eq_true c4
  clear c4
  obtain rfl := Option.some.inj H
  simp only [Option.some.injEq, Prod.mk.injEq] at H
  obtain ⟨rfl⟩ := H
  go_enter Try.func31, Try.ntmps31
  go_wp2_with (first | ((with_reducible refine gate_dst (N := 2) rfl ?_); refine box_event ?hg (N := 2) ?hd (cs := #[.int .i64 a0_0, .int .i64 a0_1, .slice A0_2 l0_2.length c0_2, .int .i64 a0_3, .int .i64 a0_4, .int .i64 a0_5, .int .i64 a0_6, .slice A0_7 l0_7.length c0_7, .slice A0_8 l0_8.length c0_8, .slice A0_9 l0_9.length c0_9]) (t := 61) ?hr ?_; (case hd => rfl); (case hg => rfl); (case hr => first | (go_simp; done) | (go_simp; rfl)); intro gb330 hg w5 hbox hb; have n0_ := Aside0.mk (below_step Z13x0 hb); have n1_ := Aside0.mk (hbox); have n2_ := Aside0.mk ((Z13x8 : w.heap.size ≤ gb330)); have n3_ := Aside0.mk ((Z13x8 : w.heap.size ≤ gb330)); clear HB; have HB := n0_; have BK330 := n1_; have GW330 := n2_; have GE330 := n3_; clear n0_ n1_ n2_ n3_; clear hb hbox hg; obtain ⟨hcz6_0, hcz6_1, hcz6_2, hcz6_3, hcz6_4, hcz6_5, hcz6_6, hcz6_7, hcz6_8, hcz6_9⟩ := cz10 BK330.out; obtain ⟨hfz6_0, hfz6_1, hfz6_2, hfz6_3, hfz6_4, hfz6_5, hfz6_6, hfz6_7, hfz6_8, hfz6_9⟩ := fz10 BK330.out) | ((with_reducible refine gate_callee (f := 66) rfl ?_); refine goesL_ (some 8) rfl rfl Try.func66 (by kernel_rfl) rfl #[.slice A0_2 l0_2.length c0_2, .int .i64 a1] rfl Z13x1 ?_; (with_reducible refine (laws_szSpanS.calls _ _ l0_2 a1 t331 _ ?side1 ?side2 A3.out).mono ?_); (case side1 => exact Z13x9); (case side2 => exact HC0_2.out); rintro e w' ⟨rfl, ⟨nd, rfl⟩⟩; refine ⟨_, rfl, ?_⟩))
  go_ret
  exact ⟨Z13x4, Z13x2⟩
 ·rw [if_neg c4] at H
  have c4b0 : decide (t331 < 0) = false := decide_eq_false c4
  clear c4
  replace H := Option.bind_eq_some_iff.mp H
  obtain ⟨t332, A70, H⟩ := H
  replace H : (if t332 < 0 then (some (-1)) else (some t332)) = some r := H
  have A7 := Aside0.mk A70
  clear A70
  by_cases c8 : t332 < 0
  ·rw [if_pos c8] at H
   have c8b0 : decide (t332 < 0) = true := decide_eq_true c8
   clear c8
   obtain rfl := Option.some.inj H
   simp only [Option.some.injEq, Prod.mk.injEq] at H
   obtain ⟨rfl⟩ := H
   go_enter Try.func31, Try.ntmps31
   go_wp2_with (first | ((with_reducible refine gate_dst (N := 2) rfl ?_); refine box_event ?hg (N := 2) ?hd (cs := #[.int .i64 a0_0, .int .i64 a0_1, .slice A0_2 l0_2.length c0_2, .int .i64 a0_3, .int .i64 a0_4, .int .i64 a0_5, .int .i64 a0_6, .slice A0_7 l0_7.length c0_7, .slice A0_8 l0_8.length c0_8, .slice A0_9 l0_9.length c0_9]) (t := 61) ?hr ?_; (case hd => rfl); (case hg => rfl); (case hr => first | (go_simp; done) | (go_simp; rfl)); intro gb330 hg w9 hbox hb; have n0_ := Aside0.mk (below_step Z13x0 hb); have n1_ := Aside0.mk (hbox); have n2_ := Aside0.mk ((Z13x8 : w.heap.size ≤ gb330)); have n3_ := Aside0.mk ((Z13x8 : w.heap.size ≤ gb330)); clear HB; have HB := n0_; have BK330 := n1_; have GW330 := n2_; have GE330 := n3_; clear n0_ n1_ n2_ n3_; clear hb hbox hg; obtain ⟨hcz10_0, hcz10_1, hcz10_2, hcz10_3, hcz10_4, hcz10_5, hcz10_6, hcz10_7, hcz10_8, hcz10_9⟩ := cz10 BK330.out; obtain ⟨hfz10_0, hfz10_1, hfz10_2, hfz10_3, hfz10_4, hfz10_5, hfz10_6, hfz10_7, hfz10_8, hfz10_9⟩ := fz10 BK330.out) | ((with_reducible refine gate_callee (f := 66) rfl ?_); refine goesL_ (some 8) rfl rfl Try.func66 (by kernel_rfl) rfl #[.slice A0_2 l0_2.length c0_2, .int .i64 a1] rfl Z13x1 ?_; (with_reducible refine (laws_szSpanS.calls _ _ l0_2 a1 t331 _ ?side1 ?side2 A3.out).mono ?_); (case side1 => exact Z13x9); (case side2 => exact HC0_2.out); rintro e w' ⟨rfl, ⟨nd, rfl⟩⟩; refine ⟨_, rfl, ?_⟩) | ((with_reducible refine gate_callee (f := 49) rfl ?_); refine goesL_ (some 14) rfl rfl Try.func49 (by kernel_rfl) rfl #[.agg #[.int .i64 a0_3, .int .i64 a0_4, .int .i64 a0_5, .int .i64 a0_6, .slice A0_7 l0_7.length c0_7, .slice A0_8 l0_8.length c0_8, .slice A0_9 l0_9.length c0_9], .int .i64 t331] rfl Z13x1 ?_; (with_reducible refine (laws_szSketch.calls k a0_3 a0_4 a0_5 a0_6 _ _ l0_7 _ _ l0_8 _ _ l0_9 t331 t332 _ ?side1 ?side2 ?side3 ?side4 ?side5 ?side6 A7.out).mono ?_); (case side1 => repeat (first | exact (Kd.C_below HR0_7.out Z13x2) | (with_reducible refine Kd.C_alloc ?_ _) | (with_reducible refine Kd.C_drewN ?_ _) | (with_reducible refine Kd.C_drew ?_))); (case side2 => exact HC0_7.out); (case side3 => repeat (first | exact (Kd.C_below HR0_8.out Z13x2) | (with_reducible refine Kd.C_alloc ?_ _) | (with_reducible refine Kd.C_drewN ?_ _) | (with_reducible refine Kd.C_drew ?_))); (case side4 => exact HC0_8.out); (case side5 => repeat (first | exact (Kd.C_below HR0_9.out Z13x2) | (with_reducible refine Kd.C_alloc ?_ _) | (with_reducible refine Kd.C_drewN ?_ _) | (with_reducible refine Kd.C_drew ?_))); (case side6 => exact HC0_9.out); rintro e w11 ⟨rfl, hb⟩; refine ⟨_, rfl, ?_⟩; have n0_ := Aside0.mk (blk_below (g := gb330) (o := .cells #[.int .i64 a0_0, .int .i64 a0_1, .slice A0_2 l0_2.length c0_2, .int .i64 a0_3, .int .i64 a0_4, .int .i64 a0_5, .int .i64 a0_6, .slice A0_7 l0_7.length c0_7, .slice A0_8 l0_8.length c0_8, .slice A0_9 l0_9.length c0_9] 61 (0, 0)) (by (with_reducible repeat (first | refine blk_drewN ?_ _ | refine blk_drew ?_ | refine blk_alloc ?_ _)); exact BK330.out) hb); have n1_ := Aside0.mk (below_step Z13x2 hb); clear BK330; clear HB; have BK330 := n0_; have HB := n1_; clear n0_ n1_; (try clear hb); (try clear hb2); (try clear hk); (try clear hi)))
   go_ret
   exact ⟨Z13x4, Z13x2⟩
  ·rw [if_neg c8] at H
   have c8b0 : decide (t332 < 0) = false := decide_eq_false c8
   clear c8
   obtain rfl := Option.some.inj H
   simp only [Option.some.injEq, Prod.mk.injEq] at H
   obtain ⟨rfl⟩ := H
   go_enter Try.func31, Try.ntmps31
   go_wp2_with (first | ((with_reducible refine gate_dst (N := 2) rfl ?_); refine box_event ?hg (N := 2) ?hd (cs := #[.int .i64 a0_0, .int .i64 a0_1, .slice A0_2 l0_2.length c0_2, .int .i64 a0_3, .int .i64 a0_4, .int .i64 a0_5, .int .i64 a0_6, .slice A0_7 l0_7.length c0_7, .slice A0_8 l0_8.length c0_8, .slice A0_9 l0_9.length c0_9]) (t := 61) ?hr ?_; (case hd => rfl); (case hg => rfl); (case hr => first | (go_simp; done) | (go_simp; rfl)); intro gb330 hg w12 hbox hb; have n0_ := Aside0.mk (below_step Z13x0 hb); have n1_ := Aside0.mk (hbox); have n2_ := Aside0.mk ((Z13x8 : w.heap.size ≤ gb330)); have n3_ := Aside0.mk ((Z13x8 : w.heap.size ≤ gb330)); clear HB; have HB := n0_; have BK330 := n1_; have GW330 := n2_; have GE330 := n3_; clear n0_ n1_ n2_ n3_; clear hb hbox hg; obtain ⟨hcz13_0, hcz13_1, hcz13_2, hcz13_3, hcz13_4, hcz13_5, hcz13_6, hcz13_7, hcz13_8, hcz13_9⟩ := cz10 BK330.out; obtain ⟨hfz13_0, hfz13_1, hfz13_2, hfz13_3, hfz13_4, hfz13_5, hfz13_6, hfz13_7, hfz13_8, hfz13_9⟩ := fz10 BK330.out) | ((with_reducible refine gate_callee (f := 66) rfl ?_); refine goesL_ (some 8) rfl rfl Try.func66 (by kernel_rfl) rfl #[.slice A0_2 l0_2.length c0_2, .int .i64 a1] rfl Z13x1 ?_; (with_reducible refine (laws_szSpanS.calls _ _ l0_2 a1 t331 _ ?side1 ?side2 A3.out).mono ?_); (case side1 => exact Z13x9); (case side2 => exact HC0_2.out); rintro e w' ⟨rfl, ⟨nd, rfl⟩⟩; refine ⟨_, rfl, ?_⟩) | ((with_reducible refine gate_callee (f := 49) rfl ?_); refine goesL_ (some 14) rfl rfl Try.func49 (by kernel_rfl) rfl #[.agg #[.int .i64 a0_3, .int .i64 a0_4, .int .i64 a0_5, .int .i64 a0_6, .slice A0_7 l0_7.length c0_7, .slice A0_8 l0_8.length c0_8, .slice A0_9 l0_9.length c0_9], .int .i64 t331] rfl Z13x1 ?_; (with_reducible refine (laws_szSketch.calls k a0_3 a0_4 a0_5 a0_6 _ _ l0_7 _ _ l0_8 _ _ l0_9 t331 t332 _ ?side1 ?side2 ?side3 ?side4 ?side5 ?side6 A7.out).mono ?_); (case side1 => repeat (first | exact (Kd.C_below HR0_7.out Z13x2) | (with_reducible refine Kd.C_alloc ?_ _) | (with_reducible refine Kd.C_drewN ?_ _) | (with_reducible refine Kd.C_drew ?_))); (case side2 => exact HC0_7.out); (case side3 => repeat (first | exact (Kd.C_below HR0_8.out Z13x2) | (with_reducible refine Kd.C_alloc ?_ _) | (with_reducible refine Kd.C_drewN ?_ _) | (with_reducible refine Kd.C_drew ?_))); (case side4 => exact HC0_8.out); (case side5 => repeat (first | exact (Kd.C_below HR0_9.out Z13x2) | (with_reducible refine Kd.C_alloc ?_ _) | (with_reducible refine Kd.C_drewN ?_ _) | (with_reducible refine Kd.C_drew ?_))); (case side6 => exact HC0_9.out); rintro e w14 ⟨rfl, hb⟩; refine ⟨_, rfl, ?_⟩; have n0_ := Aside0.mk (blk_below (g := gb330) (o := .cells #[.int .i64 a0_0, .int .i64 a0_1, .slice A0_2 l0_2.length c0_2, .int .i64 a0_3, .int .i64 a0_4, .int .i64 a0_5, .int .i64 a0_6, .slice A0_7 l0_7.length c0_7, .slice A0_8 l0_8.length c0_8, .slice A0_9 l0_9.length c0_9] 61 (0, 0)) (by (with_reducible repeat (first | refine blk_drewN ?_ _ | refine blk_drew ?_ | refine blk_alloc ?_ _)); exact BK330.out) hb); have n1_ := Aside0.mk (below_step Z13x2 hb); clear BK330; clear HB; have BK330 := n0_; have HB := n1_; clear n0_ n1_; (try clear hb); (try clear hb2); (try clear hk); (try clear hi)))
   go_ret
   exact ⟨Z13x4, Z13x2⟩

end Go.Proofs.Ytdciagkholijlaa.PFnExactEntryAdd
