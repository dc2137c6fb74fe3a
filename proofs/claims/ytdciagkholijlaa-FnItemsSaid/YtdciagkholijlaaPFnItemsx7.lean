-- Written by this session's changed copy of the kit's printer (wip/patch_print.py): not the kit's own print.
import Derived.Test.YtdciagkholijlaaPFnItemsx0
import Derived.Test.YtdciagkholijlaaPFnItemsx1
import Derived.Test.YtdciagkholijlaaPFnItemsx5
import Derived.Test.YtdciagkholijlaaPFnItemsx6
namespace Go.Proofs.Ytdciagkholijlaa.PFnItems
open Go.RowKit Go.Proofs.YtdciagkholijlaaW.PrintWords Go.Proofs.YtdciagkholijlaaW.PrintLast Go.Proofs.YtdciagkholijlaaW.PrintMore
attribute [local go_sem] max2_int min2_int max_two min_two max_three min_three max_four min_four   -- for this text's walks alone
set_option linter.unusedVariables false
set_option linter.unusedSimpArgs false
theorem Z7x0 {p : Prop} (h : p := by repeat (first | (with_reducible first | exact HB.out | apply below_alloc | apply pw_below_drewN | apply below_drew1 | refine below_set ?_ GE312.out) | exact HB.out)) : p := h
theorem Z7x1 {p : Prop} (h : p := by repeat (first | (with_reducible first | exact HB.out | apply below_alloc | apply pw_below_drewN | apply below_drew1) | exact HB.out)) : p := h
theorem Z7x2 {p : Prop} (h : p := by repeat (first | (with_reducible first | exact HB.out | apply below_alloc | apply pw_below_drewN | apply below_drew1 | refine below_set ?_ (IsS95.ge HI284.out) | refine below_set ?_ GE280.out) | exact HB.out)) : p := h
theorem Z7x3 {p : Prop} (h : p := by (try simp only [List.map_toArray, List.map_cons, List.map_nil]); first | done | rfl | (simp only [List.length_drop, List.length_take]; rfl)) : p := h
theorem Z7x4 {p : Prop} (h : p := by (with_reducible repeat (first | refine blk_drewN ?_ _ | refine blk_drew ?_ | refine blk_alloc ?_ _)); exact BK280.out) : p := h
theorem Z7x5 {p : Prop} (h : p := by (with_reducible repeat (first | refine blk_drewN ?_ _ | refine blk_drew ?_ | refine blk_alloc ?_ _)); exact BK312.out) : p := h
theorem Z7x6 {p : Prop} (h : p := by first | rfl | (simp; done) | (simp [*]; done)) : p := h

theorem Sk.pb {w : World} {a b : Nat} {x y z : Sl} {h r : List Int} {R : List (List Int)} (s : Sk w a b x y z h r R) : SkP w a (fun k => a ≤ k ∧ k < b) x y z h r R :=
  ⟨Kd.R_mono (Kd.R_bound s.1) (fun _ hk => ⟨hk.2.1, hk.1⟩), Kd.R_mono (Kd.R_bound s.2.1) (fun _ hk => ⟨⟨hk.2.1, hk.1.1⟩, hk.1.2⟩), Kd.S_mono (Kd.S_bound s.2.2) (fun _ hk => ⟨⟨hk.2.1, hk.1.1⟩, hk.1.2⟩)⟩
theorem Dr.new {w0 w W W1 : World} {g : Nat} {l : List Int} {p q p' q' : Int} {a a' b' : Nat} {P : Nat → Prop} {gx T : Nat} {Z B : Array Value} {x y z x' y' z' : Sl} {h r h' r' : List Int} {R R' : List (List Int)} (d : Dr w0 w W g l p q a P gx T Z B x y z h r R) (u : Cu w0 W1 g l p' q') (k : KeepBut W W1 g none) (s : Sk W1 a' b' x' y' z' h' r' R') (m : W.heap.size ≤ a') :
    Dr w0 w W1 g l p' q' a' (fun k => a' ≤ k ∧ k < b') gx T Z B x' y' z' h' r' R' := by
  have e := d.cur u k
  have n2 := d.n2
  have nx := d.X.lt
  exact ⟨s.pb, e.X, e.O, u, e.K, by omega, n2, d.n3, fun k hk => by omega⟩
section
variable {w w0 : World} {g t : Nat} {v0 v1 v2 v3 v4 v5 v6 v7 v8 v9 v10 : Value}
theorem Bx.cells11 (hb : Bx w g t #[v0, v1, v2, v3, v4, v5, v6, v7, v8, v9, v10]) :
    w.cell? ⟨g, 0, none⟩ = some v0 ∧ w.cell? ⟨g, 1, none⟩ = some v1 ∧ w.cell? ⟨g, 2, none⟩ = some v2 ∧ w.cell? ⟨g, 3, none⟩ = some v3 ∧ w.cell? ⟨g, 4, none⟩ = some v4 ∧ w.cell? ⟨g, 5, none⟩ = some v5 ∧ w.cell? ⟨g, 6, none⟩ = some v6 ∧ w.cell? ⟨g, 7, none⟩ = some v7 ∧ w.cell? ⟨g, 8, none⟩ = some v8 ∧ w.cell? ⟨g, 9, none⟩ = some v9 ∧ w.cell? ⟨g, 10, none⟩ = some v10 :=
  ⟨blk_cell hb 0, blk_cell hb 1, blk_cell hb 2, blk_cell hb 3, blk_cell hb 4, blk_cell hb 5, blk_cell hb 6, blk_cell hb 7, blk_cell hb 8, blk_cell hb 9, blk_cell hb 10⟩
theorem Bx.fill11 {a0 a1 a2 a3 a4 a5 a6 a7 a8 a9 a10 : Value} (hb : Bx w g t #[a0, a1, a2, a3, a4, a5, a6, a7, a8, a9, a10]) (v0 v1 v2 v3 v4 v5 v6 v7 v8 v9 v10 : Value) :
    Bx (((((((((((w.setCell ⟨g, 0, none⟩ v0).setCell ⟨g, 1, none⟩ v1).setCell ⟨g, 2, none⟩ v2).setCell ⟨g, 3, none⟩ v3).setCell ⟨g, 4, none⟩ v4).setCell ⟨g, 5, none⟩ v5).setCell ⟨g, 6, none⟩ v6).setCell ⟨g, 7, none⟩ v7).setCell ⟨g, 8, none⟩ v8).setCell ⟨g, 9, none⟩ v9).setCell ⟨g, 10, none⟩ v10) g t #[v0, v1, v2, v3, v4, v5, v6, v7, v8, v9, v10] ∧
    Kp w (((((((((((w.setCell ⟨g, 0, none⟩ v0).setCell ⟨g, 1, none⟩ v1).setCell ⟨g, 2, none⟩ v2).setCell ⟨g, 3, none⟩ v3).setCell ⟨g, 4, none⟩ v4).setCell ⟨g, 5, none⟩ v5).setCell ⟨g, 6, none⟩ v6).setCell ⟨g, 7, none⟩ v7).setCell ⟨g, 8, none⟩ v8).setCell ⟨g, 9, none⟩ v9).setCell ⟨g, 10, none⟩ v10) g (g + 1) := by
  have hg : g ≤ g ∧ g < g + 1 := ⟨Nat.le_refl _, Nat.lt_succ_self _⟩
  refine ⟨?_, ((((((((((Kp.set hg v0).trans (Kp.set hg v1)).trans (Kp.set hg v2)).trans (Kp.set hg v3)).trans (Kp.set hg v4)).trans (Kp.set hg v5)).trans (Kp.set hg v6)).trans (Kp.set hg v7)).trans (Kp.set hg v8)).trans (Kp.set hg v9)).trans (Kp.set hg v10)⟩
  have h0 : Bx _ g t #[v0, a1, a2, a3, a4, a5, a6, a7, a8, a9, a10] := blk_put hb 0 v0 rfl
  have h1 : Bx _ g t #[v0, v1, a2, a3, a4, a5, a6, a7, a8, a9, a10] := blk_put h0 1 v1 rfl
  have h2 : Bx _ g t #[v0, v1, v2, a3, a4, a5, a6, a7, a8, a9, a10] := blk_put h1 2 v2 rfl
  have h3 : Bx _ g t #[v0, v1, v2, v3, a4, a5, a6, a7, a8, a9, a10] := blk_put h2 3 v3 rfl
  have h4 : Bx _ g t #[v0, v1, v2, v3, v4, a5, a6, a7, a8, a9, a10] := blk_put h3 4 v4 rfl
  have h5 : Bx _ g t #[v0, v1, v2, v3, v4, v5, a6, a7, a8, a9, a10] := blk_put h4 5 v5 rfl
  have h6 : Bx _ g t #[v0, v1, v2, v3, v4, v5, v6, a7, a8, a9, a10] := blk_put h5 6 v6 rfl
  have h7 : Bx _ g t #[v0, v1, v2, v3, v4, v5, v6, v7, a8, a9, a10] := blk_put h6 7 v7 rfl
  have h8 : Bx _ g t #[v0, v1, v2, v3, v4, v5, v6, v7, v8, a9, a10] := blk_put h7 8 v8 rfl
  have h9 : Bx _ g t #[v0, v1, v2, v3, v4, v5, v6, v7, v8, v9, a10] := blk_put h8 9 v9 rfl
  exact blk_put h9 10 v10 rfl
end
def Dr6Out (w0 w : World) (g : Nat) (l : List Int) (sq cl ke wi c s lo hi : Int) (h r : List Int) (R : List (List Int)) (p q : Int) (e : Ending) (w' : World) : Prop :=
  ∃ v8_ v9_ v10_ : Value, e = .returned (.agg #[.int .i64 sq, .int .i64 cl, .int .i64 ke, .int .i64 wi, .int .i64 c, .int .i64 s, .int .i64 lo, .int .i64 hi, v8_, v9_, v10_]) ∧ Kd.R (Kd.int .i64) 3 w' w.heap.size (fun k_ => some k_ ≠ (v9_ : Value).ownBlock) v8_ h ∧ Kd.R (Kd.int .i64) 3 w' w.heap.size (fun k_ => some k_ ≠ (v8_ : Value).ownBlock) v9_ r ∧ Kd.S (Kd.slice 3 (Kd.int .i64)) 24 w' w.heap.size (fun k_ => some k_ ≠ (v8_ : Value).ownBlock ∧ some k_ ≠ (v9_ : Value).ownBlock) v10_ R ∧ IsS95 w0 w' g l p q ∧ Below w0.heap.size w0 w' ∧ KeepBut w w' g none
theorem Dr6Out.mk {w0 w W : World} {g : Nat} {l : List Int} {p q sq cl ke wi c s lo hi : Int} {a : Nat} {P : Nat → Prop} {x y z : Sl} {h r : List Int} {R : List (List Int)} (H : SkP W a P x y z h r R ∧ Cu w0 W g l p q ∧ KeepBut w W g none) (n : w.heap.size < a) :
    Dr6Out w0 w g l sq cl ke wi c s lo hi h r R p q (.returned (.agg #[.int .i64 sq, .int .i64 cl, .int .i64 ke, .int .i64 wi, .int .i64 c, .int .i64 s, .int .i64 lo, .int .i64 hi, .slice x.A x.n x.c, .slice y.A y.n y.c, .slice z.A z.n z.c])) W := by
  obtain ⟨k1, k2, k3⟩ := H.1.kd (base := w.heap.size) (by omega)
  exact ⟨_, _, _, rfl, k1, k2, k3, H.2.1.i, H.2.1.b, H.2.2⟩
theorem right6_cu (k : Nat) {w0 w : World} {g : Nat} {l : List Int} {p r sq cl ke wi c s lo hi r8 r9 : Int} {h t : List Int} {R : List (List Int)} (u : Cu w0 w g l p r) (he : spec_l6Right.f k l p r = some (sq, cl, ke, wi, c, s, lo, hi, h, t, R, r8, r9)) :
    Calls Try.prog 69 #[.pointer (some ⟨g, 0, none⟩)] w fun e w' => ∃ (x y z : Sl) (a b : Nat), e = .returned (.agg #[.int .i64 sq, .int .i64 cl, .int .i64 ke, .int .i64 wi, .int .i64 c, .int .i64 s, .int .i64 lo, .int .i64 hi, .slice x.A x.n x.c, .slice y.A y.n y.c, .slice z.A z.n z.c]) ∧ Sk w' a b x y z h t R ∧ Made w w' a b ∧ Cu w0 w' g l r8 r9 ∧ KeepBut w w' g none := by
  refine (spec_l6Right.calls k g l p r sq cl ke wi c s lo hi h t R r8 r9 w0 w u.i u.b he).mono ?_
  rintro e w' ⟨v4, v5, v6, rfl, h4, h5, h6, hi, hb, hk⟩
  obtain ⟨x, y, z, rfl, rfl, rfl, hs⟩ := Sk.of h4 h5 h6 (fun _ hk => hk) (fun _ hk => hk)
  exact ⟨x, y, z, _, _, rfl, hs, ⟨Nat.le_refl _, hk.1, Nat.le_refl _⟩, ⟨hi, hb⟩, hk⟩
theorem draw_cu (k : Nat) {w0 w : World} {g : Nat} {l : List Int} {p r c s lo hi r8 r9 : Int} {h t : List Int} {R : List (List Int)} (u : Cu w0 w g l p r) (he : spec_l3Draw.f k l p r = some (c, s, lo, hi, h, t, R, r8, r9)) :
    Calls Try.prog 70 #[.pointer (some ⟨g, 0, none⟩)] w fun e w' => ∃ (x y z : Sl) (a b : Nat), e = .returned (.agg #[.int .i64 c, .int .i64 s, .int .i64 lo, .int .i64 hi, .slice x.A x.n x.c, .slice y.A y.n y.c, .slice z.A z.n z.c]) ∧ Sk w' a b x y z h t R ∧ Made w w' a b ∧ Cu w0 w' g l r8 r9 ∧ KeepBut w w' g none := by
  refine (spec_l3Draw.calls k g l p r c s lo hi h t R r8 r9 w0 w u.i u.b he).mono ?_
  rintro e w' ⟨v4, v5, v6, rfl, h4, h5, h6, hi, hb, hk⟩
  obtain ⟨x, y, z, rfl, rfl, rfl, hs⟩ := Sk.of h4 h5 h6 (fun _ hk => hk) (fun _ hk => hk)
  exact ⟨x, y, z, _, _, rfl, hs, ⟨Nat.le_refl _, hk.1, Nat.le_refl _⟩, ⟨hi, hb⟩, hk⟩
set_option maxHeartbeats 8000000 in
set_option maxRecDepth 100000 in
theorem l6d_0 (k : Nat) {w0 w : World} {g : Nat} {l : List Int} {p q : Int} (u : Cu w0 w g l p q) {sq cl ke wi c s lo hi p1 q1 p2 q2 : Int} {h r : List Int} {R : List (List Int)} (E1 : Aside0 (spec_l6Right.f k l p q = some (sq, cl, ke, wi, c, s, lo, hi, h, r, R, p1, q1))) (E2 : Aside0 (spec_l1Below.f l p1 q1 14 = some (0, p2, q2))) {v p3 q3 : Int} (E3 : Aside0 (spec_l1PickInt.f l p2 q2 [0, 60, 61, (-1)] = some (v, p3, q3))) :
    Calls Try.prog 35 #[.pointer (some ⟨g, 0, none⟩)] w (Dr6Out w0 w g l v cl ke wi c s lo hi h r R p3 q3) := by
  have U0 := Aside0.mk (u.below (below_alloc (Below.refl _ w) (.cells #[.int .i64 0, .int .i64 0, .int .i64 0, .int .i64 0, .int .i64 0, .int .i64 0, .int .i64 0, .int .i64 0, .slice none 0 0, .slice none 0 0, .slice none 0 0] 29)))
  have K0 := Aside0.mk (keep_alloc (KeepBut.refl w g none) (.cells #[.int .i64 0, .int .i64 0, .int .i64 0, .int .i64 0, .int .i64 0, .int .i64 0, .int .i64 0, .int .i64 0, .slice none 0 0, .slice none 0 0, .slice none 0 0] 29))
  have O0 := Aside0.mk (Bx.new w 29 #[.int .i64 0, .int .i64 0, .int .i64 0, .int .i64 0, .int .i64 0, .int .i64 0, .int .i64 0, .int .i64 0, .slice none 0 0, .slice none 0 0, .slice none 0 0])
  have N0 := Aside0.mk u.lt
  clear u
  go_enter Try.func35, Try.ntmps35
  go_wp2_with fail
  refine (right6_cu k U0.out E1.out).mono ?_
  rintro e w1 ⟨x, y, z, a, b, rfl, hs, hm, u1, hk⟩
  unfold Made at hm
  have hq : (w.alloc (.cells #[.int .i64 0, .int .i64 0, .int .i64 0, .int .i64 0, .int .i64 0, .int .i64 0, .int .i64 0, .int .i64 0, .slice none 0 0, .slice none 0 0, .slice none 0 0] 29)).heap.size = w.heap.size + 1 := by simp
  have hk2 := U0.out.kp u1 hk
  have hl := N0.out
  have hb := below_alloc (Below.refl _ w1) (.cells #[.int .i64 sq, .int .i64 cl, .int .i64 ke, .int .i64 wi, .int .i64 c, .int .i64 s, .int .i64 lo, .int .i64 hi, .slice x.A x.n x.c, .slice y.A y.n y.c, .slice z.A z.n z.c] 29)
  have D0 := Aside0.mk (show Dr w0 w (w1.alloc (.cells #[.int .i64 sq, .int .i64 cl, .int .i64 ke, .int .i64 wi, .int .i64 c, .int .i64 s, .int .i64 lo, .int .i64 hi, .slice x.A x.n x.c, .slice y.A y.n y.c, .slice z.A z.n z.c] 29)) g l p1 q1 a (fun k => k < b) w1.heap.size 29 #[.int .i64 0, .int .i64 0, .int .i64 0, .int .i64 0, .int .i64 0, .int .i64 0, .int .i64 0, .int .i64 0, .slice none 0 0, .slice none 0 0, .slice none 0 0] #[.int .i64 sq, .int .i64 cl, .int .i64 ke, .int .i64 wi, .int .i64 c, .int .i64 s, .int .i64 lo, .int .i64 hi, .slice x.A x.n x.c, .slice y.A y.n y.c, .slice z.A z.n z.c] x y z h r R from ⟨hs.below hb, Bx.new w1 29 #[.int .i64 sq, .int .i64 cl, .int .i64 ke, .int .i64 wi, .int .i64 c, .int .i64 s, .int .i64 lo, .int .i64 hi, .slice x.A x.n x.c, .slice y.A y.n y.c, .slice z.A z.n z.c], (O0.out.kp hk2 (.inr (by omega))).below hb, u1.below hb, keep_below (keep_cur K0.out hk) hb, by omega, by omega, hl, fun k hk => by omega⟩)
  clear hs hm u1 hk hq hk2 hl hb U0 K0 O0 N0
  go_wp2_with fail
  refine (below_cu D0.out.C E2.out).mono ?_
  rintro e w2 ⟨rfl, u2, hk⟩
  have D := Aside0.mk (D0.out.cur u2 hk)
  clear u2 hk D0
  generalize w1.heap.size = gx at *
  go_wp2_with fail
  have hb := below_alloc (Below.refl _ w2) (.cells #[.int .i64 0, .int .i64 60, .int .i64 61, .int .i64 (-1)] 3)
  have D1 := Aside0.mk (D.out.below hb)
  have L1 := Aside0.mk (Bx.new w2 3 #[.int .i64 0, .int .i64 60, .int .i64 61, .int .i64 (-1)])
  have g1 := D.out.C.lt
  clear hb
  refine (lit_cu (n := 4) [0, 60, 61, (-1)] D1.out.C L1.out rfl (by decide) (Nat.ne_of_gt g1) E3.out).mono ?_
  rintro e w3 ⟨rfl, u3, hk⟩
  have D3 := Aside0.mk (D1.out.cur u3 hk)
  clear u3 hk D1 L1 D g1
  obtain ⟨x_0, x_1, x_2, x_3, x_4, x_5, x_6, x_7, x_8, x_9, x_10⟩ := D3.out.X.cells11
  have fx := D3.out.X.fz
  go_upto_region 13 with (fail)
  clear x_0 x_1 x_2 x_3 x_4 x_5 x_6 x_7 x_8 x_9 x_10
  clear fx
  have D4 := Aside0.mk (D3.out.setX 0 (.int .i64 v) rfl)
  clear D3
  generalize w3.setCell _ _ = w4 at *
  obtain ⟨x_0, x_1, x_2, x_3, x_4, x_5, x_6, x_7, x_8, x_9, x_10⟩ := D4.out.X.cells11
  obtain ⟨o0, o1, o2, o3, o4, o5, o6, o7, o8, o9, o10⟩ := D4.out.O.cells11
  have fo := D4.out.O.fz
  go_wp2
  have FF := D4.out.O.fill11 (.int .i64 v) (.int .i64 cl) (.int .i64 ke) (.int .i64 wi) (.int .i64 c) (.int .i64 s) (.int .i64 lo) (.int .i64 hi) (.slice x.A x.n x.c) (.slice y.A y.n y.c) (.slice z.A z.n z.c)
  refine bodyPost_ret (results_cell_row rfl _ _ w.heap.size 29 #[.int .i64 v, .int .i64 cl, .int .i64 ke, .int .i64 wi, .int .i64 c, .int .i64 s, .int .i64 lo, .int .i64 hi, .slice x.A x.n x.c, .slice y.A y.n y.c, .slice z.A z.n z.c] (0, 0) _ rfl FF.1 Try.underlying29 rfl (by kernel_rfl)) rfl ?_
  exact Dr6Out.mk (D4.out.fill FF.2) D4.out.n1
set_option maxHeartbeats 8000000 in
set_option maxRecDepth 100000 in
theorem l6d_1 (k : Nat) {w0 w : World} {g : Nat} {l : List Int} {p q : Int} (u : Cu w0 w g l p q) {sq cl ke wi c s lo hi p1 q1 p2 q2 : Int} {h r : List Int} {R : List (List Int)} (E1 : Aside0 (spec_l6Right.f k l p q = some (sq, cl, ke, wi, c, s, lo, hi, h, r, R, p1, q1))) (E2 : Aside0 (spec_l1Below.f l p1 q1 14 = some (1, p2, q2))) {v p3 q3 : Int} (E3 : Aside0 (spec_l1PickInt.f l p2 q2 [(-1), 2] = some (v, p3, q3))) :
    Calls Try.prog 35 #[.pointer (some ⟨g, 0, none⟩)] w (Dr6Out w0 w g l sq v ke wi c s lo hi h r R p3 q3) := by
  have U0 := Aside0.mk (u.below (below_alloc (Below.refl _ w) (.cells #[.int .i64 0, .int .i64 0, .int .i64 0, .int .i64 0, .int .i64 0, .int .i64 0, .int .i64 0, .int .i64 0, .slice none 0 0, .slice none 0 0, .slice none 0 0] 29)))
  have K0 := Aside0.mk (keep_alloc (KeepBut.refl w g none) (.cells #[.int .i64 0, .int .i64 0, .int .i64 0, .int .i64 0, .int .i64 0, .int .i64 0, .int .i64 0, .int .i64 0, .slice none 0 0, .slice none 0 0, .slice none 0 0] 29))
  have O0 := Aside0.mk (Bx.new w 29 #[.int .i64 0, .int .i64 0, .int .i64 0, .int .i64 0, .int .i64 0, .int .i64 0, .int .i64 0, .int .i64 0, .slice none 0 0, .slice none 0 0, .slice none 0 0])
  have N0 := Aside0.mk u.lt
  clear u
  go_enter Try.func35, Try.ntmps35
  go_wp2_with fail
  refine (right6_cu k U0.out E1.out).mono ?_
  rintro e w1 ⟨x, y, z, a, b, rfl, hs, hm, u1, hk⟩
  unfold Made at hm
  have hq : (w.alloc (.cells #[.int .i64 0, .int .i64 0, .int .i64 0, .int .i64 0, .int .i64 0, .int .i64 0, .int .i64 0, .int .i64 0, .slice none 0 0, .slice none 0 0, .slice none 0 0] 29)).heap.size = w.heap.size + 1 := by simp
  have hk2 := U0.out.kp u1 hk
  have hl := N0.out
  have hb := below_alloc (Below.refl _ w1) (.cells #[.int .i64 sq, .int .i64 cl, .int .i64 ke, .int .i64 wi, .int .i64 c, .int .i64 s, .int .i64 lo, .int .i64 hi, .slice x.A x.n x.c, .slice y.A y.n y.c, .slice z.A z.n z.c] 29)
  have D0 := Aside0.mk (show Dr w0 w (w1.alloc (.cells #[.int .i64 sq, .int .i64 cl, .int .i64 ke, .int .i64 wi, .int .i64 c, .int .i64 s, .int .i64 lo, .int .i64 hi, .slice x.A x.n x.c, .slice y.A y.n y.c, .slice z.A z.n z.c] 29)) g l p1 q1 a (fun k => k < b) w1.heap.size 29 #[.int .i64 0, .int .i64 0, .int .i64 0, .int .i64 0, .int .i64 0, .int .i64 0, .int .i64 0, .int .i64 0, .slice none 0 0, .slice none 0 0, .slice none 0 0] #[.int .i64 sq, .int .i64 cl, .int .i64 ke, .int .i64 wi, .int .i64 c, .int .i64 s, .int .i64 lo, .int .i64 hi, .slice x.A x.n x.c, .slice y.A y.n y.c, .slice z.A z.n z.c] x y z h r R from ⟨hs.below hb, Bx.new w1 29 #[.int .i64 sq, .int .i64 cl, .int .i64 ke, .int .i64 wi, .int .i64 c, .int .i64 s, .int .i64 lo, .int .i64 hi, .slice x.A x.n x.c, .slice y.A y.n y.c, .slice z.A z.n z.c], (O0.out.kp hk2 (.inr (by omega))).below hb, u1.below hb, keep_below (keep_cur K0.out hk) hb, by omega, by omega, hl, fun k hk => by omega⟩)
  clear hs hm u1 hk hq hk2 hl hb U0 K0 O0 N0
  go_wp2_with fail
  refine (below_cu D0.out.C E2.out).mono ?_
  rintro e w2 ⟨rfl, u2, hk⟩
  have D := Aside0.mk (D0.out.cur u2 hk)
  clear u2 hk D0
  generalize w1.heap.size = gx at *
  go_wp2_with fail
  have hb := below_alloc (Below.refl _ w2) (.cells #[.int .i64 (-1), .int .i64 2] 3)
  have D1 := Aside0.mk (D.out.below hb)
  have L1 := Aside0.mk (Bx.new w2 3 #[.int .i64 (-1), .int .i64 2])
  have g1 := D.out.C.lt
  clear hb
  refine (lit_cu (n := 2) [(-1), 2] D1.out.C L1.out rfl (by decide) (Nat.ne_of_gt g1) E3.out).mono ?_
  rintro e w3 ⟨rfl, u3, hk⟩
  have D3 := Aside0.mk (D1.out.cur u3 hk)
  clear u3 hk D1 L1 D g1
  obtain ⟨x_0, x_1, x_2, x_3, x_4, x_5, x_6, x_7, x_8, x_9, x_10⟩ := D3.out.X.cells11
  have fx := D3.out.X.fz
  go_upto_region 13 with (fail)
  clear x_0 x_1 x_2 x_3 x_4 x_5 x_6 x_7 x_8 x_9 x_10
  clear fx
  have D4 := Aside0.mk (D3.out.setX 1 (.int .i64 v) rfl)
  clear D3
  generalize w3.setCell _ _ = w4 at *
  obtain ⟨x_0, x_1, x_2, x_3, x_4, x_5, x_6, x_7, x_8, x_9, x_10⟩ := D4.out.X.cells11
  obtain ⟨o0, o1, o2, o3, o4, o5, o6, o7, o8, o9, o10⟩ := D4.out.O.cells11
  have fo := D4.out.O.fz
  go_wp2
  have FF := D4.out.O.fill11 (.int .i64 sq) (.int .i64 v) (.int .i64 ke) (.int .i64 wi) (.int .i64 c) (.int .i64 s) (.int .i64 lo) (.int .i64 hi) (.slice x.A x.n x.c) (.slice y.A y.n y.c) (.slice z.A z.n z.c)
  refine bodyPost_ret (results_cell_row rfl _ _ w.heap.size 29 #[.int .i64 sq, .int .i64 v, .int .i64 ke, .int .i64 wi, .int .i64 c, .int .i64 s, .int .i64 lo, .int .i64 hi, .slice x.A x.n x.c, .slice y.A y.n y.c, .slice z.A z.n z.c] (0, 0) _ rfl FF.1 Try.underlying29 rfl (by kernel_rfl)) rfl ?_
  exact Dr6Out.mk (D4.out.fill FF.2) D4.out.n1
set_option maxHeartbeats 8000000 in
set_option maxRecDepth 100000 in
theorem l6d_2 (k : Nat) {w0 w : World} {g : Nat} {l : List Int} {p q : Int} (u : Cu w0 w g l p q) {sq cl ke wi c s lo hi p1 q1 p2 q2 : Int} {h r : List Int} {R : List (List Int)} (E1 : Aside0 (spec_l6Right.f k l p q = some (sq, cl, ke, wi, c, s, lo, hi, h, r, R, p1, q1))) (E2 : Aside0 (spec_l1Below.f l p1 q1 14 = some (2, p2, q2))) {v p3 q3 : Int} (E3 : Aside0 (spec_l1PickInt.f l p2 q2 [(-1), 4, 5] = some (v, p3, q3))) :
    Calls Try.prog 35 #[.pointer (some ⟨g, 0, none⟩)] w (Dr6Out w0 w g l sq cl v wi c s lo hi h r R p3 q3) := by
  have U0 := Aside0.mk (u.below (below_alloc (Below.refl _ w) (.cells #[.int .i64 0, .int .i64 0, .int .i64 0, .int .i64 0, .int .i64 0, .int .i64 0, .int .i64 0, .int .i64 0, .slice none 0 0, .slice none 0 0, .slice none 0 0] 29)))
  have K0 := Aside0.mk (keep_alloc (KeepBut.refl w g none) (.cells #[.int .i64 0, .int .i64 0, .int .i64 0, .int .i64 0, .int .i64 0, .int .i64 0, .int .i64 0, .int .i64 0, .slice none 0 0, .slice none 0 0, .slice none 0 0] 29))
  have O0 := Aside0.mk (Bx.new w 29 #[.int .i64 0, .int .i64 0, .int .i64 0, .int .i64 0, .int .i64 0, .int .i64 0, .int .i64 0, .int .i64 0, .slice none 0 0, .slice none 0 0, .slice none 0 0])
  have N0 := Aside0.mk u.lt
  clear u
  go_enter Try.func35, Try.ntmps35
  go_wp2_with fail
  refine (right6_cu k U0.out E1.out).mono ?_
  rintro e w1 ⟨x, y, z, a, b, rfl, hs, hm, u1, hk⟩
  unfold Made at hm
  have hq : (w.alloc (.cells #[.int .i64 0, .int .i64 0, .int .i64 0, .int .i64 0, .int .i64 0, .int .i64 0, .int .i64 0, .int .i64 0, .slice none 0 0, .slice none 0 0, .slice none 0 0] 29)).heap.size = w.heap.size + 1 := by simp
  have hk2 := U0.out.kp u1 hk
  have hl := N0.out
  have hb := below_alloc (Below.refl _ w1) (.cells #[.int .i64 sq, .int .i64 cl, .int .i64 ke, .int .i64 wi, .int .i64 c, .int .i64 s, .int .i64 lo, .int .i64 hi, .slice x.A x.n x.c, .slice y.A y.n y.c, .slice z.A z.n z.c] 29)
  have D0 := Aside0.mk (show Dr w0 w (w1.alloc (.cells #[.int .i64 sq, .int .i64 cl, .int .i64 ke, .int .i64 wi, .int .i64 c, .int .i64 s, .int .i64 lo, .int .i64 hi, .slice x.A x.n x.c, .slice y.A y.n y.c, .slice z.A z.n z.c] 29)) g l p1 q1 a (fun k => k < b) w1.heap.size 29 #[.int .i64 0, .int .i64 0, .int .i64 0, .int .i64 0, .int .i64 0, .int .i64 0, .int .i64 0, .int .i64 0, .slice none 0 0, .slice none 0 0, .slice none 0 0] #[.int .i64 sq, .int .i64 cl, .int .i64 ke, .int .i64 wi, .int .i64 c, .int .i64 s, .int .i64 lo, .int .i64 hi, .slice x.A x.n x.c, .slice y.A y.n y.c, .slice z.A z.n z.c] x y z h r R from ⟨hs.below hb, Bx.new w1 29 #[.int .i64 sq, .int .i64 cl, .int .i64 ke, .int .i64 wi, .int .i64 c, .int .i64 s, .int .i64 lo, .int .i64 hi, .slice x.A x.n x.c, .slice y.A y.n y.c, .slice z.A z.n z.c], (O0.out.kp hk2 (.inr (by omega))).below hb, u1.below hb, keep_below (keep_cur K0.out hk) hb, by omega, by omega, hl, fun k hk => by omega⟩)
  clear hs hm u1 hk hq hk2 hl hb U0 K0 O0 N0
  go_wp2_with fail
  refine (below_cu D0.out.C E2.out).mono ?_
  rintro e w2 ⟨rfl, u2, hk⟩
  have D := Aside0.mk (D0.out.cur u2 hk)
  clear u2 hk D0
  generalize w1.heap.size = gx at *
  go_wp2_with fail
  have hb := below_alloc (Below.refl _ w2) (.cells #[.int .i64 (-1), .int .i64 4, .int .i64 5] 3)
  have D1 := Aside0.mk (D.out.below hb)
  have L1 := Aside0.mk (Bx.new w2 3 #[.int .i64 (-1), .int .i64 4, .int .i64 5])
  have g1 := D.out.C.lt
  clear hb
  refine (lit_cu (n := 3) [(-1), 4, 5] D1.out.C L1.out rfl (by decide) (Nat.ne_of_gt g1) E3.out).mono ?_
  rintro e w3 ⟨rfl, u3, hk⟩
  have D3 := Aside0.mk (D1.out.cur u3 hk)
  clear u3 hk D1 L1 D g1
  obtain ⟨x_0, x_1, x_2, x_3, x_4, x_5, x_6, x_7, x_8, x_9, x_10⟩ := D3.out.X.cells11
  have fx := D3.out.X.fz
  go_upto_region 13 with (fail)
  clear x_0 x_1 x_2 x_3 x_4 x_5 x_6 x_7 x_8 x_9 x_10
  clear fx
  have D4 := Aside0.mk (D3.out.setX 2 (.int .i64 v) rfl)
  clear D3
  generalize w3.setCell _ _ = w4 at *
  obtain ⟨x_0, x_1, x_2, x_3, x_4, x_5, x_6, x_7, x_8, x_9, x_10⟩ := D4.out.X.cells11
  obtain ⟨o0, o1, o2, o3, o4, o5, o6, o7, o8, o9, o10⟩ := D4.out.O.cells11
  have fo := D4.out.O.fz
  go_wp2
  have FF := D4.out.O.fill11 (.int .i64 sq) (.int .i64 cl) (.int .i64 v) (.int .i64 wi) (.int .i64 c) (.int .i64 s) (.int .i64 lo) (.int .i64 hi) (.slice x.A x.n x.c) (.slice y.A y.n y.c) (.slice z.A z.n z.c)
  refine bodyPost_ret (results_cell_row rfl _ _ w.heap.size 29 #[.int .i64 sq, .int .i64 cl, .int .i64 v, .int .i64 wi, .int .i64 c, .int .i64 s, .int .i64 lo, .int .i64 hi, .slice x.A x.n x.c, .slice y.A y.n y.c, .slice z.A z.n z.c] (0, 0) _ rfl FF.1 Try.underlying29 rfl (by kernel_rfl)) rfl ?_
  exact Dr6Out.mk (D4.out.fill FF.2) D4.out.n1
set_option maxHeartbeats 8000000 in
set_option maxRecDepth 100000 in
theorem l6d_3 (k : Nat) {w0 w : World} {g : Nat} {l : List Int} {p q : Int} (u : Cu w0 w g l p q) {sq cl ke wi c s lo hi p1 q1 p2 q2 : Int} {h r : List Int} {R : List (List Int)} (E1 : Aside0 (spec_l6Right.f k l p q = some (sq, cl, ke, wi, c, s, lo, hi, h, r, R, p1, q1))) (E2 : Aside0 (spec_l1Below.f l p1 q1 14 = some (3, p2, q2))) {v p3 q3 : Int} (E3 : Aside0 (spec_l1PickInt.f l p2 q2 [(-1), 20, 21] = some (v, p3, q3))) :
    Calls Try.prog 35 #[.pointer (some ⟨g, 0, none⟩)] w (Dr6Out w0 w g l sq cl ke v c s lo hi h r R p3 q3) := by
  have U0 := Aside0.mk (u.below (below_alloc (Below.refl _ w) (.cells #[.int .i64 0, .int .i64 0, .int .i64 0, .int .i64 0, .int .i64 0, .int .i64 0, .int .i64 0, .int .i64 0, .slice none 0 0, .slice none 0 0, .slice none 0 0] 29)))
  have K0 := Aside0.mk (keep_alloc (KeepBut.refl w g none) (.cells #[.int .i64 0, .int .i64 0, .int .i64 0, .int .i64 0, .int .i64 0, .int .i64 0, .int .i64 0, .int .i64 0, .slice none 0 0, .slice none 0 0, .slice none 0 0] 29))
  have O0 := Aside0.mk (Bx.new w 29 #[.int .i64 0, .int .i64 0, .int .i64 0, .int .i64 0, .int .i64 0, .int .i64 0, .int .i64 0, .int .i64 0, .slice none 0 0, .slice none 0 0, .slice none 0 0])
  have N0 := Aside0.mk u.lt
  clear u
  go_enter Try.func35, Try.ntmps35
  go_wp2_with fail
  refine (right6_cu k U0.out E1.out).mono ?_
  rintro e w1 ⟨x, y, z, a, b, rfl, hs, hm, u1, hk⟩
  unfold Made at hm
  have hq : (w.alloc (.cells #[.int .i64 0, .int .i64 0, .int .i64 0, .int .i64 0, .int .i64 0, .int .i64 0, .int .i64 0, .int .i64 0, .slice none 0 0, .slice none 0 0, .slice none 0 0] 29)).heap.size = w.heap.size + 1 := by simp
  have hk2 := U0.out.kp u1 hk
  have hl := N0.out
  have hb := below_alloc (Below.refl _ w1) (.cells #[.int .i64 sq, .int .i64 cl, .int .i64 ke, .int .i64 wi, .int .i64 c, .int .i64 s, .int .i64 lo, .int .i64 hi, .slice x.A x.n x.c, .slice y.A y.n y.c, .slice z.A z.n z.c] 29)
  have D0 := Aside0.mk (show Dr w0 w (w1.alloc (.cells #[.int .i64 sq, .int .i64 cl, .int .i64 ke, .int .i64 wi, .int .i64 c, .int .i64 s, .int .i64 lo, .int .i64 hi, .slice x.A x.n x.c, .slice y.A y.n y.c, .slice z.A z.n z.c] 29)) g l p1 q1 a (fun k => k < b) w1.heap.size 29 #[.int .i64 0, .int .i64 0, .int .i64 0, .int .i64 0, .int .i64 0, .int .i64 0, .int .i64 0, .int .i64 0, .slice none 0 0, .slice none 0 0, .slice none 0 0] #[.int .i64 sq, .int .i64 cl, .int .i64 ke, .int .i64 wi, .int .i64 c, .int .i64 s, .int .i64 lo, .int .i64 hi, .slice x.A x.n x.c, .slice y.A y.n y.c, .slice z.A z.n z.c] x y z h r R from ⟨hs.below hb, Bx.new w1 29 #[.int .i64 sq, .int .i64 cl, .int .i64 ke, .int .i64 wi, .int .i64 c, .int .i64 s, .int .i64 lo, .int .i64 hi, .slice x.A x.n x.c, .slice y.A y.n y.c, .slice z.A z.n z.c], (O0.out.kp hk2 (.inr (by omega))).below hb, u1.below hb, keep_below (keep_cur K0.out hk) hb, by omega, by omega, hl, fun k hk => by omega⟩)
  clear hs hm u1 hk hq hk2 hl hb U0 K0 O0 N0
  go_wp2_with fail
  refine (below_cu D0.out.C E2.out).mono ?_
  rintro e w2 ⟨rfl, u2, hk⟩
  have D := Aside0.mk (D0.out.cur u2 hk)
  clear u2 hk D0
  generalize w1.heap.size = gx at *
  go_wp2_with fail
  have hb := below_alloc (Below.refl _ w2) (.cells #[.int .i64 (-1), .int .i64 20, .int .i64 21] 3)
  have D1 := Aside0.mk (D.out.below hb)
  have L1 := Aside0.mk (Bx.new w2 3 #[.int .i64 (-1), .int .i64 20, .int .i64 21])
  have g1 := D.out.C.lt
  clear hb
  refine (lit_cu (n := 3) [(-1), 20, 21] D1.out.C L1.out rfl (by decide) (Nat.ne_of_gt g1) E3.out).mono ?_
  rintro e w3 ⟨rfl, u3, hk⟩
  have D3 := Aside0.mk (D1.out.cur u3 hk)
  clear u3 hk D1 L1 D g1
  obtain ⟨x_0, x_1, x_2, x_3, x_4, x_5, x_6, x_7, x_8, x_9, x_10⟩ := D3.out.X.cells11
  have fx := D3.out.X.fz
  go_upto_region 13 with (fail)
  clear x_0 x_1 x_2 x_3 x_4 x_5 x_6 x_7 x_8 x_9 x_10
  clear fx
  have D4 := Aside0.mk (D3.out.setX 3 (.int .i64 v) rfl)
  clear D3
  generalize w3.setCell _ _ = w4 at *
  obtain ⟨x_0, x_1, x_2, x_3, x_4, x_5, x_6, x_7, x_8, x_9, x_10⟩ := D4.out.X.cells11
  obtain ⟨o0, o1, o2, o3, o4, o5, o6, o7, o8, o9, o10⟩ := D4.out.O.cells11
  have fo := D4.out.O.fz
  go_wp2
  have FF := D4.out.O.fill11 (.int .i64 sq) (.int .i64 cl) (.int .i64 ke) (.int .i64 v) (.int .i64 c) (.int .i64 s) (.int .i64 lo) (.int .i64 hi) (.slice x.A x.n x.c) (.slice y.A y.n y.c) (.slice z.A z.n z.c)
  refine bodyPost_ret (results_cell_row rfl _ _ w.heap.size 29 #[.int .i64 sq, .int .i64 cl, .int .i64 ke, .int .i64 v, .int .i64 c, .int .i64 s, .int .i64 lo, .int .i64 hi, .slice x.A x.n x.c, .slice y.A y.n y.c, .slice z.A z.n z.c] (0, 0) _ rfl FF.1 Try.underlying29 rfl (by kernel_rfl)) rfl ?_
  exact Dr6Out.mk (D4.out.fill FF.2) D4.out.n1
set_option maxHeartbeats 8000000 in
set_option maxRecDepth 100000 in
theorem l6d_4 (k : Nat) {w0 w : World} {g : Nat} {l : List Int} {p q : Int} (u : Cu w0 w g l p q) {sq cl ke wi c s lo hi p1 q1 p2 q2 : Int} {h r : List Int} {R : List (List Int)} (E1 : Aside0 (spec_l6Right.f k l p q = some (sq, cl, ke, wi, c, s, lo, hi, h, r, R, p1, q1))) (E2 : Aside0 (spec_l1Below.f l p1 q1 14 = some (4, p2, q2))) {c' s' lo' hi' p3 q3 : Int} {h' r' : List Int} {R' : List (List Int)} (E3 : Aside0 (spec_l3Draw.f k l p2 q2 = some (c', s', lo', hi', h', r', R', p3, q3))) :
    Calls Try.prog 35 #[.pointer (some ⟨g, 0, none⟩)] w (Dr6Out w0 w g l sq cl ke wi c' s' lo' hi' h' r' R' p3 q3) := by
  have U0 := Aside0.mk (u.below (below_alloc (Below.refl _ w) (.cells #[.int .i64 0, .int .i64 0, .int .i64 0, .int .i64 0, .int .i64 0, .int .i64 0, .int .i64 0, .int .i64 0, .slice none 0 0, .slice none 0 0, .slice none 0 0] 29)))
  have K0 := Aside0.mk (keep_alloc (KeepBut.refl w g none) (.cells #[.int .i64 0, .int .i64 0, .int .i64 0, .int .i64 0, .int .i64 0, .int .i64 0, .int .i64 0, .int .i64 0, .slice none 0 0, .slice none 0 0, .slice none 0 0] 29))
  have O0 := Aside0.mk (Bx.new w 29 #[.int .i64 0, .int .i64 0, .int .i64 0, .int .i64 0, .int .i64 0, .int .i64 0, .int .i64 0, .int .i64 0, .slice none 0 0, .slice none 0 0, .slice none 0 0])
  have N0 := Aside0.mk u.lt
  clear u
  go_enter Try.func35, Try.ntmps35
  go_wp2_with fail
  refine (right6_cu k U0.out E1.out).mono ?_
  rintro e w1 ⟨x, y, z, a, b, rfl, hs, hm, u1, hk⟩
  unfold Made at hm
  have hq : (w.alloc (.cells #[.int .i64 0, .int .i64 0, .int .i64 0, .int .i64 0, .int .i64 0, .int .i64 0, .int .i64 0, .int .i64 0, .slice none 0 0, .slice none 0 0, .slice none 0 0] 29)).heap.size = w.heap.size + 1 := by simp
  have hk2 := U0.out.kp u1 hk
  have hl := N0.out
  have hb := below_alloc (Below.refl _ w1) (.cells #[.int .i64 sq, .int .i64 cl, .int .i64 ke, .int .i64 wi, .int .i64 c, .int .i64 s, .int .i64 lo, .int .i64 hi, .slice x.A x.n x.c, .slice y.A y.n y.c, .slice z.A z.n z.c] 29)
  have D0 := Aside0.mk (show Dr w0 w (w1.alloc (.cells #[.int .i64 sq, .int .i64 cl, .int .i64 ke, .int .i64 wi, .int .i64 c, .int .i64 s, .int .i64 lo, .int .i64 hi, .slice x.A x.n x.c, .slice y.A y.n y.c, .slice z.A z.n z.c] 29)) g l p1 q1 a (fun k => k < b) w1.heap.size 29 #[.int .i64 0, .int .i64 0, .int .i64 0, .int .i64 0, .int .i64 0, .int .i64 0, .int .i64 0, .int .i64 0, .slice none 0 0, .slice none 0 0, .slice none 0 0] #[.int .i64 sq, .int .i64 cl, .int .i64 ke, .int .i64 wi, .int .i64 c, .int .i64 s, .int .i64 lo, .int .i64 hi, .slice x.A x.n x.c, .slice y.A y.n y.c, .slice z.A z.n z.c] x y z h r R from ⟨hs.below hb, Bx.new w1 29 #[.int .i64 sq, .int .i64 cl, .int .i64 ke, .int .i64 wi, .int .i64 c, .int .i64 s, .int .i64 lo, .int .i64 hi, .slice x.A x.n x.c, .slice y.A y.n y.c, .slice z.A z.n z.c], (O0.out.kp hk2 (.inr (by omega))).below hb, u1.below hb, keep_below (keep_cur K0.out hk) hb, by omega, by omega, hl, fun k hk => by omega⟩)
  clear hs hm u1 hk hq hk2 hl hb U0 K0 O0 N0
  go_wp2_with fail
  refine (below_cu D0.out.C E2.out).mono ?_
  rintro e w2 ⟨rfl, u2, hk⟩
  have D := Aside0.mk (D0.out.cur u2 hk)
  clear u2 hk D0
  generalize w1.heap.size = gx at *
  go_wp2_with fail
  refine (draw_cu k D.out.C E3.out).mono ?_
  rintro e w3 ⟨x', y', z', a', b', rfl, hs, hm, u3, hk⟩
  have D3 := Aside0.mk (D.out.new u3 hk hs hm.1)
  clear u3 hk hs hm D
  obtain ⟨x_0, x_1, x_2, x_3, x_4, x_5, x_6, x_7, x_8, x_9, x_10⟩ := D3.out.X.cells11
  have fx := D3.out.X.fz
  go_upto_region 13 with (fail)
  clear x_0 x_1 x_2 x_3 x_4 x_5 x_6 x_7 x_8 x_9 x_10
  clear fx
  have D4 := Aside0.mk (show Dr w0 w (((((((w3.setCell ⟨gx, 4, none⟩ (.int .i64 c')).setCell ⟨gx, 5, none⟩ (.int .i64 s')).setCell ⟨gx, 6, none⟩ (.int .i64 lo')).setCell ⟨gx, 7, none⟩ (.int .i64 hi')).setCell ⟨gx, 8, none⟩ (.slice x'.A x'.n x'.c)).setCell ⟨gx, 9, none⟩ (.slice y'.A y'.n y'.c)).setCell ⟨gx, 10, none⟩ (.slice z'.A z'.n z'.c)) g l p3 q3 a' (fun k => a' ≤ k ∧ k < b') gx 29 #[.int .i64 0, .int .i64 0, .int .i64 0, .int .i64 0, .int .i64 0, .int .i64 0, .int .i64 0, .int .i64 0, .slice none 0 0, .slice none 0 0, .slice none 0 0] #[.int .i64 sq, .int .i64 cl, .int .i64 ke, .int .i64 wi, .int .i64 c', .int .i64 s', .int .i64 lo', .int .i64 hi', .slice x'.A x'.n x'.c, .slice y'.A y'.n y'.c, .slice z'.A z'.n z'.c] x' y' z' h' r' R' from (((((((D3.out.setX 4 (.int .i64 c') rfl).setX 5 (.int .i64 s') rfl).setX 6 (.int .i64 lo') rfl).setX 7 (.int .i64 hi') rfl).setX 8 (.slice x'.A x'.n x'.c) rfl).setX 9 (.slice y'.A y'.n y'.c) rfl).setX 10 (.slice z'.A z'.n z'.c) rfl))
  clear D3
  generalize (((((((w3.setCell ⟨gx, 4, none⟩ (.int .i64 c')).setCell ⟨gx, 5, none⟩ (.int .i64 s')).setCell ⟨gx, 6, none⟩ (.int .i64 lo')).setCell ⟨gx, 7, none⟩ (.int .i64 hi')).setCell ⟨gx, 8, none⟩ (.slice x'.A x'.n x'.c)).setCell ⟨gx, 9, none⟩ (.slice y'.A y'.n y'.c)).setCell ⟨gx, 10, none⟩ (.slice z'.A z'.n z'.c)) = w4 at *
  obtain ⟨x_0, x_1, x_2, x_3, x_4, x_5, x_6, x_7, x_8, x_9, x_10⟩ := D4.out.X.cells11
  obtain ⟨o0, o1, o2, o3, o4, o5, o6, o7, o8, o9, o10⟩ := D4.out.O.cells11
  have fo := D4.out.O.fz
  go_wp2
  have FF := D4.out.O.fill11 (.int .i64 sq) (.int .i64 cl) (.int .i64 ke) (.int .i64 wi) (.int .i64 c') (.int .i64 s') (.int .i64 lo') (.int .i64 hi') (.slice x'.A x'.n x'.c) (.slice y'.A y'.n y'.c) (.slice z'.A z'.n z'.c)
  refine bodyPost_ret (results_cell_row rfl _ _ w.heap.size 29 #[.int .i64 sq, .int .i64 cl, .int .i64 ke, .int .i64 wi, .int .i64 c', .int .i64 s', .int .i64 lo', .int .i64 hi', .slice x'.A x'.n x'.c, .slice y'.A y'.n y'.c, .slice z'.A z'.n z'.c] (0, 0) _ rfl FF.1 Try.underlying29 rfl (by kernel_rfl)) rfl ?_
  exact Dr6Out.mk (D4.out.fill FF.2) D4.out.n1
set_option maxHeartbeats 8000000 in
set_option maxRecDepth 100000 in
theorem l6d_e (k : Nat) {w0 w : World} {g : Nat} {l : List Int} {p q : Int} (u : Cu w0 w g l p q) {sq cl ke wi c s lo hi p1 q1 n p2 q2 : Int} {h r : List Int} {R : List (List Int)} (E1 : Aside0 (spec_l6Right.f k l p q = some (sq, cl, ke, wi, c, s, lo, hi, h, r, R, p1, q1))) (E2 : Aside0 (spec_l1Below.f l p1 q1 14 = some (n, p2, q2))) (HN : ¬ n = 0 ∧ ¬ n = 1 ∧ ¬ n = 2 ∧ ¬ n = 3 ∧ ¬ n = 4) :
    Calls Try.prog 35 #[.pointer (some ⟨g, 0, none⟩)] w (Dr6Out w0 w g l sq cl ke wi c s lo hi h r R p2 q2) := by
  have U0 := Aside0.mk (u.below (below_alloc (Below.refl _ w) (.cells #[.int .i64 0, .int .i64 0, .int .i64 0, .int .i64 0, .int .i64 0, .int .i64 0, .int .i64 0, .int .i64 0, .slice none 0 0, .slice none 0 0, .slice none 0 0] 29)))
  have K0 := Aside0.mk (keep_alloc (KeepBut.refl w g none) (.cells #[.int .i64 0, .int .i64 0, .int .i64 0, .int .i64 0, .int .i64 0, .int .i64 0, .int .i64 0, .int .i64 0, .slice none 0 0, .slice none 0 0, .slice none 0 0] 29))
  have O0 := Aside0.mk (Bx.new w 29 #[.int .i64 0, .int .i64 0, .int .i64 0, .int .i64 0, .int .i64 0, .int .i64 0, .int .i64 0, .int .i64 0, .slice none 0 0, .slice none 0 0, .slice none 0 0])
  have N0 := Aside0.mk u.lt
  clear u
  go_enter Try.func35, Try.ntmps35
  go_wp2_with fail
  refine (right6_cu k U0.out E1.out).mono ?_
  rintro e w1 ⟨x, y, z, a, b, rfl, hs, hm, u1, hk⟩
  unfold Made at hm
  have hq : (w.alloc (.cells #[.int .i64 0, .int .i64 0, .int .i64 0, .int .i64 0, .int .i64 0, .int .i64 0, .int .i64 0, .int .i64 0, .slice none 0 0, .slice none 0 0, .slice none 0 0] 29)).heap.size = w.heap.size + 1 := by simp
  have hk2 := U0.out.kp u1 hk
  have hl := N0.out
  have hb := below_alloc (Below.refl _ w1) (.cells #[.int .i64 sq, .int .i64 cl, .int .i64 ke, .int .i64 wi, .int .i64 c, .int .i64 s, .int .i64 lo, .int .i64 hi, .slice x.A x.n x.c, .slice y.A y.n y.c, .slice z.A z.n z.c] 29)
  have D0 := Aside0.mk (show Dr w0 w (w1.alloc (.cells #[.int .i64 sq, .int .i64 cl, .int .i64 ke, .int .i64 wi, .int .i64 c, .int .i64 s, .int .i64 lo, .int .i64 hi, .slice x.A x.n x.c, .slice y.A y.n y.c, .slice z.A z.n z.c] 29)) g l p1 q1 a (fun k => k < b) w1.heap.size 29 #[.int .i64 0, .int .i64 0, .int .i64 0, .int .i64 0, .int .i64 0, .int .i64 0, .int .i64 0, .int .i64 0, .slice none 0 0, .slice none 0 0, .slice none 0 0] #[.int .i64 sq, .int .i64 cl, .int .i64 ke, .int .i64 wi, .int .i64 c, .int .i64 s, .int .i64 lo, .int .i64 hi, .slice x.A x.n x.c, .slice y.A y.n y.c, .slice z.A z.n z.c] x y z h r R from ⟨hs.below hb, Bx.new w1 29 #[.int .i64 sq, .int .i64 cl, .int .i64 ke, .int .i64 wi, .int .i64 c, .int .i64 s, .int .i64 lo, .int .i64 hi, .slice x.A x.n x.c, .slice y.A y.n y.c, .slice z.A z.n z.c], (O0.out.kp hk2 (.inr (by omega))).below hb, u1.below hb, keep_below (keep_cur K0.out hk) hb, by omega, by omega, hl, fun k hk => by omega⟩)
  clear hs hm u1 hk hq hk2 hl hb U0 K0 O0 N0
  go_wp2_with fail
  refine (below_cu D0.out.C E2.out).mono ?_
  rintro e w2 ⟨rfl, u2, hk⟩
  have D := Aside0.mk (D0.out.cur u2 hk)
  clear u2 hk D0
  generalize w1.heap.size = gx at *
  obtain ⟨e0, e1, e2, e3, e4⟩ := HN
  obtain ⟨x_0, x_1, x_2, x_3, x_4, x_5, x_6, x_7, x_8, x_9, x_10⟩ := D.out.X.cells11
  obtain ⟨o0, o1, o2, o3, o4, o5, o6, o7, o8, o9, o10⟩ := D.out.O.cells11
  have fo := D.out.O.fz
  go_wp2
  have FF := D.out.O.fill11 (.int .i64 sq) (.int .i64 cl) (.int .i64 ke) (.int .i64 wi) (.int .i64 c) (.int .i64 s) (.int .i64 lo) (.int .i64 hi) (.slice x.A x.n x.c) (.slice y.A y.n y.c) (.slice z.A z.n z.c)
  refine bodyPost_ret (results_cell_row rfl _ _ w.heap.size 29 #[.int .i64 sq, .int .i64 cl, .int .i64 ke, .int .i64 wi, .int .i64 c, .int .i64 s, .int .i64 lo, .int .i64 hi, .slice x.A x.n x.c, .slice y.A y.n y.c, .slice z.A z.n z.c] (0, 0) _ rfl FF.1 Try.underlying29 rfl (by kernel_rfl)) rfl ?_
  exact Dr6Out.mk (D.out.fill FF.2) D.out.n1

def spec_l6Draw.f (k : Nat) (s0_0 : List Int) (s0_1 : Int) (s0_2 : Int) : Option (Int × Int × Int × Int × Int × Int × Int × Int × List Int × List Int × (List (List Int)) × Int × Int) := (spec_l6Right.f k s0_0 s0_1 s0_2).bind fun bt339 => ((spec_l1Below.f s0_0 bt339.2.2.2.2.2.2.2.2.2.2.2.1 bt339.2.2.2.2.2.2.2.2.2.2.2.2 14).bind fun bt359 => (if bt359.1 = 0 then ((spec_l1PickInt.f s0_0 bt359.2.1 bt359.2.2 (([0, 60, 61, (-1)] : List Int))).bind fun bt365 => (some (bt365.1, bt339.2.1, bt339.2.2.1, bt339.2.2.2.1, bt339.2.2.2.2.1, bt339.2.2.2.2.2.1, bt339.2.2.2.2.2.2.1, bt339.2.2.2.2.2.2.2.1, bt339.2.2.2.2.2.2.2.2.1, bt339.2.2.2.2.2.2.2.2.2.1, bt339.2.2.2.2.2.2.2.2.2.2.1, bt365.2.1, bt365.2.2))) else (if bt359.1 = 1 then ((spec_l1PickInt.f s0_0 bt359.2.1 bt359.2.2 (([(-1), 2] : List Int))).bind fun bt371 => (some (bt339.1, bt371.1, bt339.2.2.1, bt339.2.2.2.1, bt339.2.2.2.2.1, bt339.2.2.2.2.2.1, bt339.2.2.2.2.2.2.1, bt339.2.2.2.2.2.2.2.1, bt339.2.2.2.2.2.2.2.2.1, bt339.2.2.2.2.2.2.2.2.2.1, bt339.2.2.2.2.2.2.2.2.2.2.1, bt371.2.1, bt371.2.2))) else (if bt359.1 = 2 then ((spec_l1PickInt.f s0_0 bt359.2.1 bt359.2.2 (([(-1), 4, 5] : List Int))).bind fun bt377 => (some (bt339.1, bt339.2.1, bt377.1, bt339.2.2.2.1, bt339.2.2.2.2.1, bt339.2.2.2.2.2.1, bt339.2.2.2.2.2.2.1, bt339.2.2.2.2.2.2.2.1, bt339.2.2.2.2.2.2.2.2.1, bt339.2.2.2.2.2.2.2.2.2.1, bt339.2.2.2.2.2.2.2.2.2.2.1, bt377.2.1, bt377.2.2))) else (if bt359.1 = 3 then ((spec_l1PickInt.f s0_0 bt359.2.1 bt359.2.2 (([(-1), 20, 21] : List Int))).bind fun bt383 => (some (bt339.1, bt339.2.1, bt339.2.2.1, bt383.1, bt339.2.2.2.2.1, bt339.2.2.2.2.2.1, bt339.2.2.2.2.2.2.1, bt339.2.2.2.2.2.2.2.1, bt339.2.2.2.2.2.2.2.2.1, bt339.2.2.2.2.2.2.2.2.2.1, bt339.2.2.2.2.2.2.2.2.2.2.1, bt383.2.1, bt383.2.2))) else (if bt359.1 = 4 then ((spec_l3Draw.f k s0_0 bt359.2.1 bt359.2.2).bind fun bt386 => (some (bt339.1, bt339.2.1, bt339.2.2.1, bt339.2.2.2.1, bt386.1, bt386.2.1, bt386.2.2.1, bt386.2.2.2.1, bt386.2.2.2.2.1, bt386.2.2.2.2.2.1, bt386.2.2.2.2.2.2.1, bt386.2.2.2.2.2.2.2.1, bt386.2.2.2.2.2.2.2.2))) else (some (bt339.1, bt339.2.1, bt339.2.2.1, bt339.2.2.2.1, bt339.2.2.2.2.1, bt339.2.2.2.2.2.1, bt339.2.2.2.2.2.2.1, bt339.2.2.2.2.2.2.2.1, bt339.2.2.2.2.2.2.2.2.1, bt339.2.2.2.2.2.2.2.2.2.1, bt339.2.2.2.2.2.2.2.2.2.2.1, bt359.2.1, bt359.2.2))))))))
theorem spec_l6Draw.mono : ∀ a0 a1 a2 k, LeO (spec_l6Draw.f k a0 a1 a2) (spec_l6Draw.f (k + 1) a0 a1 a2) := by
 intro a0 a1 a2 k
 unfold spec_l6Draw.f
 repeat' first
   | (with_reducible exact spec_l3Draw.mono _ _ _ _)
   | (with_reducible exact spec_l6Right.mono _ _ _ _)
   | (with_reducible exact LeO.refl _)
   | (with_reducible exact LeO.none _)
   | (with_reducible refine LeO.ite ?_ ?_)
   | (with_reducible refine LeO.bind ?_ (fun _ => ?_))
   | exact spec_l3Draw.mono _ _ _ _
   | exact spec_l6Right.mono _ _ _ _
   | exact LeO.none _
   | refine LeO.ite ?_ ?_
   | refine LeO.bind ?_ (fun _ => ?_)
theorem spec_l6Draw.calls (k : Nat) (g : Nat) (s0_0 : List Int) (s0_1 : Int) (s0_2 : Int) (r1 : Int) (r2 : Int) (r3 : Int) (r4 : Int) (r5 : Int) (r6 : Int) (r7 : Int) (r8 : Int) (r9 : List Int) (r10 : List Int) (r11 : List (List Int)) (r12 : Int) (r13 : Int) (w0 w : World) (hI : IsS95 w0 w g s0_0 s0_1 s0_2) (hB : Below w0.heap.size w0 w) (h : spec_l6Draw.f k s0_0 s0_1 s0_2 = some (r1, r2, r3, r4, r5, r6, r7, r8, r9, r10, r11, r12, r13)) :
    Calls Try.prog 35 #[.pointer (some ⟨g, 0, none⟩)] w fun e w' => ∃ v8_ v9_ v10_ : Value, e = .returned (.agg #[.int .i64 r1, .int .i64 r2, .int .i64 r3, .int .i64 r4, .int .i64 r5, .int .i64 r6, .int .i64 r7, .int .i64 r8, v8_, v9_, v10_]) ∧ Kd.R (Kd.int .i64) 3 w' w.heap.size (fun k_ => some k_ ≠ (v9_ : Value).ownBlock) v8_ r9 ∧ Kd.R (Kd.int .i64) 3 w' w.heap.size (fun k_ => some k_ ≠ (v8_ : Value).ownBlock) v9_ r10 ∧ Kd.S (Kd.slice 3 (Kd.int .i64)) 24 w' w.heap.size (fun k_ => some k_ ≠ (v8_ : Value).ownBlock ∧ some k_ ≠ (v9_ : Value).ownBlock) v10_ r11 ∧ IsS95 w0 w' g s0_0 r12 r13 ∧ Below w0.heap.size w0 w' ∧ KeepBut w w' g none := by
  have u : Cu w0 w g s0_0 s0_1 s0_2 := ⟨hI, hB⟩
  unfold spec_l6Draw.f at h
  replace h := Option.bind_eq_some_iff.mp h
  obtain ⟨⟨sq, cl, ke, wi, c, s, lo, hi, h0, r, R, p1, q1⟩, E1, h⟩ := h
  replace h := Option.bind_eq_some_iff.mp h
  obtain ⟨⟨n, p2, q2⟩, E2, h⟩ := h
  dsimp only at E1 E2 h
  by_cases e0 : n = 0
  · subst e0
    rw [if_pos rfl] at h;replace h := Option.bind_eq_some_iff.mp h;obtain ⟨⟨v, p3, q3⟩, E3, h⟩ := h;simp only [Option.some.injEq, Prod.mk.injEq] at h;obtain ⟨rfl, rfl, rfl, rfl, rfl, rfl, rfl, rfl, rfl, rfl, rfl, rfl, rfl⟩ := h;exact l6d_0 k u ⟨E1⟩ ⟨E2⟩ ⟨E3⟩
  rw [if_neg e0] at h
  by_cases e1 : n = 1
  · subst e1
    rw [if_pos rfl] at h;replace h := Option.bind_eq_some_iff.mp h;obtain ⟨⟨v, p3, q3⟩, E3, h⟩ := h;simp only [Option.some.injEq, Prod.mk.injEq] at h;obtain ⟨rfl, rfl, rfl, rfl, rfl, rfl, rfl, rfl, rfl, rfl, rfl, rfl, rfl⟩ := h;exact l6d_1 k u ⟨E1⟩ ⟨E2⟩ ⟨E3⟩
  rw [if_neg e1] at h
  by_cases e2 : n = 2
  · subst e2
    rw [if_pos rfl] at h;replace h := Option.bind_eq_some_iff.mp h;obtain ⟨⟨v, p3, q3⟩, E3, h⟩ := h;simp only [Option.some.injEq, Prod.mk.injEq] at h;obtain ⟨rfl, rfl, rfl, rfl, rfl, rfl, rfl, rfl, rfl, rfl, rfl, rfl, rfl⟩ := h;exact l6d_2 k u ⟨E1⟩ ⟨E2⟩ ⟨E3⟩
  rw [if_neg e2] at h
  by_cases e3 : n = 3
  · subst e3
    rw [if_pos rfl] at h;replace h := Option.bind_eq_some_iff.mp h;obtain ⟨⟨v, p3, q3⟩, E3, h⟩ := h;simp only [Option.some.injEq, Prod.mk.injEq] at h;obtain ⟨rfl, rfl, rfl, rfl, rfl, rfl, rfl, rfl, rfl, rfl, rfl, rfl, rfl⟩ := h;exact l6d_3 k u ⟨E1⟩ ⟨E2⟩ ⟨E3⟩
  rw [if_neg e3] at h
  by_cases e4 : n = 4
  · subst e4
    rw [if_pos rfl] at h;replace h := Option.bind_eq_some_iff.mp h;obtain ⟨⟨c', s', lo', hi', h', r', R', p3, q3⟩, E3, h⟩ := h;simp only [Option.some.injEq, Prod.mk.injEq] at h;obtain ⟨rfl, rfl, rfl, rfl, rfl, rfl, rfl, rfl, rfl, rfl, rfl, rfl, rfl⟩ := h;exact l6d_4 k u ⟨E1⟩ ⟨E2⟩ ⟨E3⟩
  rw [if_neg e4] at h
  simp only [Option.some.injEq, Prod.mk.injEq] at h
  obtain ⟨rfl, rfl, rfl, rfl, rfl, rfl, rfl, rfl, rfl, rfl, rfl, rfl, rfl⟩ := h
  exact l6d_e k u ⟨E1⟩ ⟨E2⟩ ⟨e0, e1, e2, e3, e4⟩

def spec_DrawEntryOf.f (k : Nat) (l0 : List Int) : Option (Int × Int × Int × Int × Int × Int × Int × Int × Int × List Int × List Int × (List (List Int))) := (spec_l1New.f k l0).bind fun bt281 => ((spec_l1Below.f bt281.1 bt281.2.1 bt281.2.2 5).bind fun bt285 => ((spec_l6Draw.f k bt281.1 bt285.2.1 bt285.2.2).bind fun bt288 => (some (wrap64 (bt285.1 - 1), bt288.1, bt288.2.1, bt288.2.2.1, bt288.2.2.2.1, bt288.2.2.2.2.1, bt288.2.2.2.2.2.1, bt288.2.2.2.2.2.2.1, bt288.2.2.2.2.2.2.2.1, bt288.2.2.2.2.2.2.2.2.1, bt288.2.2.2.2.2.2.2.2.2.1, bt288.2.2.2.2.2.2.2.2.2.2.1))))
theorem spec_DrawEntryOf.mono : ∀ a0 k, LeO (spec_DrawEntryOf.f k a0) (spec_DrawEntryOf.f (k + 1) a0) := by
  intro a0 k
  unfold spec_DrawEntryOf.f
  repeat' first
      | (with_reducible exact spec_l1New.mono _ _)
      | (with_reducible exact spec_l6Draw.mono _ _ _ _)
      | (with_reducible exact LeO.refl _)
      | (with_reducible exact LeO.none _)
      | (with_reducible refine LeO.ite ?_ ?_)
      | (with_reducible refine LeO.bind ?_ (fun _ => ?_))
      | exact spec_l1New.mono _ _
      | exact spec_l6Draw.mono _ _ _ _
      | exact LeO.none _
      | refine LeO.ite ?_ ?_
      | refine LeO.bind ?_ (fun _ => ?_)
set_option maxHeartbeats 8000000 in
set_option maxRecDepth 100000 in
theorem spec_DrawEntryOf.calls (k : Nat) (A0 : Option Addr) (c0 : Nat) (l0 : List Int) (r1 : Int) (r2 : Int) (r3 : Int) (r4 : Int) (r5 : Int) (r6 : Int) (r7 : Int) (r8 : Int) (r9 : Int) (r10 : List Int) (r11 : List Int) (r12 : List (List Int)) (w : World) (hr0 : Kd.C (Kd.int .u8) w A0 l0.length l0) (hc0 : l0.length ≤ c0) (h : spec_DrawEntryOf.f k l0 = some (r1, r2, r3, r4, r5, r6, r7, r8, r9, r10, r11, r12)) :
    Calls Try.prog 8 #[.slice A0 l0.length c0] w fun e w' => ∃ v9_ v10_ v11_ : Value, e = .returned (.tuple #[.int .i64 r1, .agg #[.int .i64 r2, .int .i64 r3, .int .i64 r4, .int .i64 r5, .int .i64 r6, .int .i64 r7, .int .i64 r8, .int .i64 r9, v9_, v10_, v11_]]) ∧ Kd.R (Kd.int .i64) 3 w' w.heap.size (fun k_ => some k_ ≠ (v10_ : Value).ownBlock) v9_ r10 ∧ Kd.R (Kd.int .i64) 3 w' w.heap.size (fun k_ => some k_ ≠ (v9_ : Value).ownBlock) v10_ r11 ∧ Kd.S (Kd.slice 3 (Kd.int .i64)) 24 w' w.heap.size (fun k_ => some k_ ≠ (v9_ : Value).ownBlock ∧ some k_ ≠ (v10_ : Value).ownBlock) v11_ r12 ∧ Below w.heap.size w w' := by
  have hu29 := Try.underlying29
  have HR0 := Aside0.mk hr0
  have HC0 := Aside0.mk hc0
  clear hr0 hc0
  have HB := Aside0.mk (Below.refl w.heap.size w)
  have H : ((spec_l1New.f k l0).bind fun bt281 => ((spec_l1Below.f bt281.1 bt281.2.1 bt281.2.2 5).bind fun bt285 => ((spec_l6Draw.f k bt281.1 bt285.2.1 bt285.2.2).bind fun bt288 => (some (wrap64 (bt285.1 - 1), bt288.1, bt288.2.1, bt288.2.2.1, bt288.2.2.2.1, bt288.2.2.2.2.1, bt288.2.2.2.2.2.1, bt288.2.2.2.2.2.2.1, bt288.2.2.2.2.2.2.2.1, bt288.2.2.2.2.2.2.2.2.1, bt288.2.2.2.2.2.2.2.2.2.1, bt288.2.2.2.2.2.2.2.2.2.2.1))))) = some (r1, r2, r3, r4, r5, r6, r7, r8, r9, r10, r11, r12) := h
  clear h
  replace H := Option.bind_eq_some_iff.mp H
  obtain ⟨⟨t281, t282, t283⟩, A20, H⟩ := H
  replace H : ((spec_l1Below.f t281 t282 t283 5).bind fun bt285 => ((spec_l6Draw.f k t281 bt285.2.1 bt285.2.2).bind fun bt288 => (some (wrap64 (bt285.1 - 1), bt288.1, bt288.2.1, bt288.2.2.1, bt288.2.2.2.1, bt288.2.2.2.2.1, bt288.2.2.2.2.2.1, bt288.2.2.2.2.2.2.1, bt288.2.2.2.2.2.2.2.1, bt288.2.2.2.2.2.2.2.2.1, bt288.2.2.2.2.2.2.2.2.2.1, bt288.2.2.2.2.2.2.2.2.2.2.1)))) = some (r1, r2, r3, r4, r5, r6, r7, r8, r9, r10, r11, r12) := H
  have A2 := Aside0.mk A20
  clear A20
  replace H := Option.bind_eq_some_iff.mp H
  obtain ⟨⟨t285, t286, t287⟩, A30, H⟩ := H
  replace H : ((spec_l6Draw.f k t281 t286 t287).bind fun bt288 => (some (wrap64 (t285 - 1), bt288.1, bt288.2.1, bt288.2.2.1, bt288.2.2.2.1, bt288.2.2.2.2.1, bt288.2.2.2.2.2.1, bt288.2.2.2.2.2.2.1, bt288.2.2.2.2.2.2.2.1, bt288.2.2.2.2.2.2.2.2.1, bt288.2.2.2.2.2.2.2.2.2.1, bt288.2.2.2.2.2.2.2.2.2.2.1))) = some (r1, r2, r3, r4, r5, r6, r7, r8, r9, r10, r11, r12) := H
  have A3 := Aside0.mk A30
  clear A30
  replace H := Option.bind_eq_some_iff.mp H
  obtain ⟨⟨t288, t289, t290, t291, t292, t293, t294, t295, t296, t299, t302, t305, t306⟩, A40, H⟩ := H
  replace H : (some (wrap64 (t285 - 1), t288, t289, t290, t291, t292, t293, t294, t295, t296, t299, t302)) = some (r1, r2, r3, r4, r5, r6, r7, r8, r9, r10, r11, r12) := H
  have A4 := Aside0.mk A40
  clear A40
  simp only [Option.some.injEq, Prod.mk.injEq] at H
  obtain ⟨rfl, rfl, rfl, rfl, rfl, rfl, rfl, rfl, rfl, rfl, rfl, rfl⟩ := H
  go_enter Try.func8, Try.ntmps8
  go_wp2_with (first | ((with_reducible refine gate_dst (N := 3) rfl ?_); refine box_event ?hg (N := 3) ?hd (cs := #[.int .i64 0, .int .i64 0, .int .i64 0, .int .i64 0, .int .i64 0, .int .i64 0, .int .i64 0, .int .i64 0, .slice none 0 0, .slice none 0 0, .slice none 0 0]) (t := 29) ?hr ?_; (case hd => rfl); (case hg => rfl); (case hr => first | (go_simp; done) | (go_simp; rfl)); intro gb280 hg w5 hbox hb; have n0_ := Aside0.mk (below_step Z7x1 hb); have n1_ := Aside0.mk (hbox); have n2_ := Aside0.mk ((by rw [hg]; exact (below_size Z7x1) : w.heap.size ≤ gb280)); have n3_ := Aside0.mk ((by rw [hg]; exact (below_size Z7x1) : w.heap.size ≤ gb280)); clear HB; have HB := n0_; have BK280 := n1_; have GW280 := n2_; have GE280 := n3_; clear n0_ n1_ n2_ n3_; clear hb hbox hg) | ((with_reducible refine gate_callee (f := 33) rfl ?_); refine goesL_ (some 7) rfl rfl Try.func33 (by kernel_rfl) rfl #[.slice A0 l0.length c0] rfl Z7x3 ?_; (with_reducible refine (spec_l1New.calls k _ _ l0 t281 t282 t283 w _ ?side1 ?side2 ?side3 A2.out).mono ?_); (case side1 => repeat (first | (with_reducible first | exact HB.out | apply below_alloc | apply pw_below_drewN | apply below_drew1 | refine below_set ?_ GE280.out) | exact HB.out)); (case side2 => exact HR0.out); (case side3 => exact HC0.out); rintro e w6 ⟨g284, rfl, hi, hb, hb2⟩; refine ⟨_, rfl, ?_⟩; have n0_ := Aside0.mk (blk_below (g := gb280) (o := .cells #[.int .i64 0, .int .i64 0, .int .i64 0, .int .i64 0, .int .i64 0, .int .i64 0, .int .i64 0, .int .i64 0, .slice none 0 0, .slice none 0 0, .slice none 0 0] 29 (0, 0)) Z7x4 hb2); have n1_ := Aside0.mk (hb); have n2_ := Aside0.mk (hi); have n3_ := Aside0.mk (IsS95.ne_blk hi (blk_below (g := gb280) (o := .cells #[.int .i64 0, .int .i64 0, .int .i64 0, .int .i64 0, .int .i64 0, .int .i64 0, .int .i64 0, .int .i64 0, .slice none 0 0, .slice none 0 0, .slice none 0 0] 29 (0, 0)) Z7x4 hb2) (by decide)); have n4_ := Aside0.mk (Ne.symm (IsS95.ne_blk hi (blk_below (g := gb280) (o := .cells #[.int .i64 0, .int .i64 0, .int .i64 0, .int .i64 0, .int .i64 0, .int .i64 0, .int .i64 0, .int .i64 0, .slice none 0 0, .slice none 0 0, .slice none 0 0] 29 (0, 0)) Z7x4 hb2) (by decide))); clear BK280; clear HB; have BK280 := n0_; have HB := n1_; have HI284 := n2_; have NB284_280 := n3_; have NB280_284 := n4_; clear n0_ n1_ n2_ n3_ n4_; (try clear hb); (try clear hb2); (try clear hk); (try clear hi)) | ((with_reducible refine gate_callee (f := 34) rfl ?_); refine goesL_ (some 9) rfl rfl Try.func34 (by kernel_rfl) rfl #[.pointer (some ⟨g284, 0, none⟩), .int .i64 5] rfl Z7x3 ?_; (with_reducible refine (spec_l1Below.calls g284 t281 t282 t283 5 t285 t286 t287 w _ ?side1 ?side2 A3.out).mono ?_); (case side1 => repeat (first | (with_reducible first | exact HI284.out | apply IsS95.alloc | apply IsS95.drewN | apply IsS95.drew | apply IsS95.set_1 | apply IsS95.set_2 | refine IsS95.far ?_ NB284_280.out _) | exact HI284.out)); (case side2 => exact Z7x2); rintro e w7 ⟨rfl, hi, hb, hk⟩; refine ⟨_, rfl, ?_⟩; have n0_ := Aside0.mk (KeepBut.blk hk (g' := gb280) (o := .cells #[.int .i64 0, .int .i64 0, .int .i64 0, .int .i64 0, .int .i64 0, .int .i64 0, .int .i64 0, .int .i64 0, .slice none 0 0, .slice none 0 0, .slice none 0 0] 29 (0, 0)) Z7x4 NB280_284.out (by simp)); have n1_ := Aside0.mk (hb); have n2_ := Aside0.mk (hi); clear BK280; clear HB; clear HI284; have BK280 := n0_; have HB := n1_; have HI284 := n2_; clear n0_ n1_ n2_; (try clear hb); (try clear hb2); (try clear hk); (try clear hi)) | ((with_reducible refine gate_callee (f := 35) rfl ?_); refine goesL_ (some 13) rfl rfl Try.func35 (by kernel_rfl) rfl #[.pointer (some ⟨g284, 0, none⟩)] rfl Z7x3 ?_; (with_reducible refine (spec_l6Draw.calls k g284 t281 t286 t287 t288 t289 t290 t291 t292 t293 t294 t295 t296 t299 t302 t305 t306 w _ ?side1 ?side2 A4.out).mono ?_); (case side1 => repeat (first | (with_reducible first | exact HI284.out | apply IsS95.alloc | apply IsS95.drewN | apply IsS95.drew | apply IsS95.set_1 | apply IsS95.set_2 | refine IsS95.far ?_ NB284_280.out _) | exact HI284.out)); (case side2 => exact Z7x2); rintro e w8 ⟨v297, v300, v303, rfl, ho0, ho1, ho2, hi, hb, hk⟩; refine ⟨_, rfl, ?_⟩; have n0_ := Aside0.mk (KeepBut.blk hk (g' := gb280) (o := .cells #[.int .i64 0, .int .i64 0, .int .i64 0, .int .i64 0, .int .i64 0, .int .i64 0, .int .i64 0, .int .i64 0, .slice none 0 0, .slice none 0 0, .slice none 0 0] 29 (0, 0)) Z7x4 NB280_284.out (by simp)); have n1_ := Aside0.mk (Kd.R_lower ho0 (below_size Z7x2)); have n2_ := Aside0.mk (Kd.R_lower ho1 (below_size Z7x2)); have n3_ := Aside0.mk (Kd.S_lower ho2 (below_size Z7x2)); have n4_ := Aside0.mk (hb); have n5_ := Aside0.mk (hi); clear BK280; clear HB; clear HI284; have BK280 := n0_; have HO298 := n1_; have HO301 := n2_; have HO304 := n3_; have HB := n4_; have HI284 := n5_; clear n0_ n1_ n2_ n3_ n4_ n5_; (try clear hb); (try clear hb2); (try clear hk); (try clear hi); (try clear ho0); (try clear ho1); (try clear ho2); have hnb9 := NB280_284.out; have hnc9 := NB284_280.out; obtain ⟨hcz10_0, hcz10_1, hcz10_2, hcz10_3, hcz10_4, hcz10_5, hcz10_6, hcz10_7, hcz10_8, hcz10_9, hcz10_10⟩ := cz11 BK280.out; obtain ⟨hfz10_0, hfz10_1, hfz10_2, hfz10_3, hfz10_4, hfz10_5, hfz10_6, hfz10_7, hfz10_8, hfz10_9, hfz10_10⟩ := fz11 BK280.out; obtain ⟨Ao11, co11, eo11⟩ := Kd.R_slice HO298.out; subst eo11; obtain ⟨Ao12, co12, eo12⟩ := Kd.R_slice HO301.out; subst eo12; obtain ⟨Ao13, co13, eo13⟩ := Kd.S_slice HO304.out; subst eo13))
  refine bodyPost_ret (results_tc rfl _ _ gb280 29 #[.int .i64 t288, .int .i64 t289, .int .i64 t290, .int .i64 t291, .int .i64 t292, .int .i64 t293, .int .i64 t294, .int .i64 t295, .slice Ao11 t296.length co11, .slice Ao12 t299.length co12, .slice Ao13 t302.length co13] (0, 0) _ rfl (by (with_reducible repeat (first | refine blk_drewN ?_ _ | refine blk_drew ?_ | refine blk_alloc ?_ _)); refine blk_put (cs := #[.int .i64 t288, .int .i64 t289, .int .i64 t290, .int .i64 t291, .int .i64 t292, .int .i64 t293, .int .i64 t294, .int .i64 t295, .slice Ao11 t296.length co11, .slice Ao12 t299.length co12, .slice none 0 0]) ?_ 10 _ rfl; (with_reducible repeat (first | refine blk_drewN ?_ _ | refine blk_drew ?_ | refine blk_alloc ?_ _)); refine blk_put (cs := #[.int .i64 t288, .int .i64 t289, .int .i64 t290, .int .i64 t291, .int .i64 t292, .int .i64 t293, .int .i64 t294, .int .i64 t295, .slice Ao11 t296.length co11, .slice none 0 0, .slice none 0 0]) ?_ 9 _ rfl; (with_reducible repeat (first | refine blk_drewN ?_ _ | refine blk_drew ?_ | refine blk_alloc ?_ _)); refine blk_put (cs := #[.int .i64 t288, .int .i64 t289, .int .i64 t290, .int .i64 t291, .int .i64 t292, .int .i64 t293, .int .i64 t294, .int .i64 t295, .slice none 0 0, .slice none 0 0, .slice none 0 0]) ?_ 8 _ rfl; (with_reducible repeat (first | refine blk_drewN ?_ _ | refine blk_drew ?_ | refine blk_alloc ?_ _)); refine blk_put (cs := #[.int .i64 t288, .int .i64 t289, .int .i64 t290, .int .i64 t291, .int .i64 t292, .int .i64 t293, .int .i64 t294, .int .i64 0, .slice none 0 0, .slice none 0 0, .slice none 0 0]) ?_ 7 _ rfl; (with_reducible repeat (first | refine blk_drewN ?_ _ | refine blk_drew ?_ | refine blk_alloc ?_ _)); refine blk_put (cs := #[.int .i64 t288, .int .i64 t289, .int .i64 t290, .int .i64 t291, .int .i64 t292, .int .i64 t293, .int .i64 0, .int .i64 0, .slice none 0 0, .slice none 0 0, .slice none 0 0]) ?_ 6 _ rfl; (with_reducible repeat (first | refine blk_drewN ?_ _ | refine blk_drew ?_ | refine blk_alloc ?_ _)); refine blk_put (cs := #[.int .i64 t288, .int .i64 t289, .int .i64 t290, .int .i64 t291, .int .i64 t292, .int .i64 0, .int .i64 0, .int .i64 0, .slice none 0 0, .slice none 0 0, .slice none 0 0]) ?_ 5 _ rfl; (with_reducible repeat (first | refine blk_drewN ?_ _ | refine blk_drew ?_ | refine blk_alloc ?_ _)); refine blk_put (cs := #[.int .i64 t288, .int .i64 t289, .int .i64 t290, .int .i64 t291, .int .i64 0, .int .i64 0, .int .i64 0, .int .i64 0, .slice none 0 0, .slice none 0 0, .slice none 0 0]) ?_ 4 _ rfl; (with_reducible repeat (first | refine blk_drewN ?_ _ | refine blk_drew ?_ | refine blk_alloc ?_ _)); refine blk_put (cs := #[.int .i64 t288, .int .i64 t289, .int .i64 t290, .int .i64 0, .int .i64 0, .int .i64 0, .int .i64 0, .int .i64 0, .slice none 0 0, .slice none 0 0, .slice none 0 0]) ?_ 3 _ rfl; (with_reducible repeat (first | refine blk_drewN ?_ _ | refine blk_drew ?_ | refine blk_alloc ?_ _)); refine blk_put (cs := #[.int .i64 t288, .int .i64 t289, .int .i64 0, .int .i64 0, .int .i64 0, .int .i64 0, .int .i64 0, .int .i64 0, .slice none 0 0, .slice none 0 0, .slice none 0 0]) ?_ 2 _ rfl; (with_reducible repeat (first | refine blk_drewN ?_ _ | refine blk_drew ?_ | refine blk_alloc ?_ _)); refine blk_put (cs := #[.int .i64 t288, .int .i64 0, .int .i64 0, .int .i64 0, .int .i64 0, .int .i64 0, .int .i64 0, .int .i64 0, .slice none 0 0, .slice none 0 0, .slice none 0 0]) ?_ 1 _ rfl; (with_reducible repeat (first | refine blk_drewN ?_ _ | refine blk_drew ?_ | refine blk_alloc ?_ _)); refine blk_put (cs := #[.int .i64 0, .int .i64 0, .int .i64 0, .int .i64 0, .int .i64 0, .int .i64 0, .int .i64 0, .int .i64 0, .slice none 0 0, .slice none 0 0, .slice none 0 0]) ?_ 0 _ rfl; (with_reducible repeat (first | refine blk_drewN ?_ _ | refine blk_drew ?_ | refine blk_alloc ?_ _)); exact BK280.out) Try.underlying29 rfl (by kernel_rfl)) rfl ?_
  exact ⟨_, _, _, by first | rfl | (simp [errW_none, errW_some] <;> rfl) | (simp [*, errW_none, errW_some] <;> rfl), by (with_reducible repeat (first | apply Kd.R_alloc | apply Kd.R_drewN | apply Kd.R_drew)); exact Kd.R_mono (Kd.R_far (p := ⟨gb280, 10, none⟩) (Kd.R_far (p := ⟨gb280, 9, none⟩) (Kd.R_far (p := ⟨gb280, 8, none⟩) (Kd.R_far (p := ⟨gb280, 7, none⟩) (Kd.R_far (p := ⟨gb280, 6, none⟩) (Kd.R_far (p := ⟨gb280, 5, none⟩) (Kd.R_far (p := ⟨gb280, 4, none⟩) (Kd.R_far (p := ⟨gb280, 3, none⟩) (Kd.R_far (p := ⟨gb280, 2, none⟩) (Kd.R_far (p := ⟨gb280, 1, none⟩) (Kd.R_far (p := ⟨gb280, 0, none⟩) (Kd.R_types HO298.out BK280.out (by decide)) (fun _ hk => hk.2) (.int .i64 t288)) (fun _ hk => hk.2) (.int .i64 t289)) (fun _ hk => hk.2) (.int .i64 t290)) (fun _ hk => hk.2) (.int .i64 t291)) (fun _ hk => hk.2) (.int .i64 t292)) (fun _ hk => hk.2) (.int .i64 t293)) (fun _ hk => hk.2) (.int .i64 t294)) (fun _ hk => hk.2) (.int .i64 t295)) (fun _ hk => hk.2) (.slice Ao11 t296.length co11)) (fun _ hk => hk.2) (.slice Ao12 t299.length co12)) (fun _ hk => hk.2) (.slice Ao13 t302.length co13)) (fun _ hk => hk.1), by (with_reducible repeat (first | apply Kd.R_alloc | apply Kd.R_drewN | apply Kd.R_drew)); exact Kd.R_mono (Kd.R_far (p := ⟨gb280, 10, none⟩) (Kd.R_far (p := ⟨gb280, 9, none⟩) (Kd.R_far (p := ⟨gb280, 8, none⟩) (Kd.R_far (p := ⟨gb280, 7, none⟩) (Kd.R_far (p := ⟨gb280, 6, none⟩) (Kd.R_far (p := ⟨gb280, 5, none⟩) (Kd.R_far (p := ⟨gb280, 4, none⟩) (Kd.R_far (p := ⟨gb280, 3, none⟩) (Kd.R_far (p := ⟨gb280, 2, none⟩) (Kd.R_far (p := ⟨gb280, 1, none⟩) (Kd.R_far (p := ⟨gb280, 0, none⟩) (Kd.R_types HO301.out BK280.out (by decide)) (fun _ hk => hk.2) (.int .i64 t288)) (fun _ hk => hk.2) (.int .i64 t289)) (fun _ hk => hk.2) (.int .i64 t290)) (fun _ hk => hk.2) (.int .i64 t291)) (fun _ hk => hk.2) (.int .i64 t292)) (fun _ hk => hk.2) (.int .i64 t293)) (fun _ hk => hk.2) (.int .i64 t294)) (fun _ hk => hk.2) (.int .i64 t295)) (fun _ hk => hk.2) (.slice Ao11 t296.length co11)) (fun _ hk => hk.2) (.slice Ao12 t299.length co12)) (fun _ hk => hk.2) (.slice Ao13 t302.length co13)) (fun _ hk => hk.1), by (with_reducible repeat (first | apply Kd.S_alloc | apply Kd.S_drewN | apply Kd.S_drew)); exact Kd.S_mono (Kd.S_far (p := ⟨gb280, 10, none⟩) (Kd.S_far (p := ⟨gb280, 9, none⟩) (Kd.S_far (p := ⟨gb280, 8, none⟩) (Kd.S_far (p := ⟨gb280, 7, none⟩) (Kd.S_far (p := ⟨gb280, 6, none⟩) (Kd.S_far (p := ⟨gb280, 5, none⟩) (Kd.S_far (p := ⟨gb280, 4, none⟩) (Kd.S_far (p := ⟨gb280, 3, none⟩) (Kd.S_far (p := ⟨gb280, 2, none⟩) (Kd.S_far (p := ⟨gb280, 1, none⟩) (Kd.S_far (p := ⟨gb280, 0, none⟩) (Kd.S_types HO304.out BK280.out (by decide)) (fun _ hk => hk.2) (.int .i64 t288)) (fun _ hk => hk.2) (.int .i64 t289)) (fun _ hk => hk.2) (.int .i64 t290)) (fun _ hk => hk.2) (.int .i64 t291)) (fun _ hk => hk.2) (.int .i64 t292)) (fun _ hk => hk.2) (.int .i64 t293)) (fun _ hk => hk.2) (.int .i64 t294)) (fun _ hk => hk.2) (.int .i64 t295)) (fun _ hk => hk.2) (.slice Ao11 t296.length co11)) (fun _ hk => hk.2) (.slice Ao12 t299.length co12)) (fun _ hk => hk.2) (.slice Ao13 t302.length co13)) (fun _ hk => ⟨hk.1.1, hk.1.2⟩), Z7x2⟩

def impl_within.f (a0 : Int) (a1 : Int) (a2 : Int) : Option (Bool) := if a0 ≥ a1 then (some (decide (a0 ≤ a2))) else (some false)
set_option maxHeartbeats 8000000 in
set_option maxRecDepth 100000 in
theorem impl_within.calls (a0 : Int) (a1 : Int) (a2 : Int) (r : Bool) (w : World) (h : impl_within.f a0 a1 a2 = some r) :
    Calls Try.prog 40 #[.int .i64 a0, .int .i64 a1, .int .i64 a2] w fun e w' => e = .returned (.bool r) ∧ Drawn0 w w' := by
  have H : (if a0 ≥ a1 then (some (decide (a0 ≤ a2))) else (some false)) = some r := h
  clear h
  by_cases c4 : a0 ≥ a1
  · rw [if_pos c4] at H
    have c4b0 : decide (a1 ≤ a0) = true := decide_eq_true c4;clear c4;obtain rfl := Option.some.inj H;simp only [Option.some.injEq, Prod.mk.injEq] at H;obtain ⟨rfl⟩ := H
    go_enter Try.func40, Try.ntmps40
    go_wp2
    go_ret
    exact ⟨Z7x6, by repeat (first | exact Drawn0.refl _ | apply Drawn0.step)⟩
  · rw [if_neg c4] at H
    have c4b0 : decide (a1 ≤ a0) = false := decide_eq_false c4;clear c4;obtain rfl := Option.some.inj H;simp only [Option.some.injEq, Prod.mk.injEq] at H;obtain ⟨rfl⟩ := H
    go_enter Try.func40, Try.ntmps40
    go_wp2
    go_ret
    exact ⟨Z7x6, by repeat (first | exact Drawn0.refl _ | apply Drawn0.step)⟩

def impl_IdOf.f (a0 : Int) (a1 : Int) : Option (Int) := (impl_within.f a0 0 2).bind fun t307 => (if t307 = true then ((impl_within.f a1 1 60).bind fun t308 => (if t308 = true then (some (wrap64 ((wrap64 (100 * a0)) + a1))) else (some (-1)))) else (some (-1)))
set_option maxHeartbeats 8000000 in
set_option maxRecDepth 100000 in
theorem impl_IdOf.calls (a0 : Int) (a1 : Int) (r : Int) (w : World) (h : impl_IdOf.f a0 a1 = some r) :
    Calls Try.prog 12 #[.int .i64 a0, .int .i64 a1] w fun e w' => e = .returned (.int .i64 r) ∧ Drawn0 w w' := by
  have H : ((impl_within.f a0 0 2).bind fun t307 => (if t307 = true then ((impl_within.f a1 1 60).bind fun t308 => (if t308 = true then (some (wrap64 ((wrap64 (100 * a0)) + a1))) else (some (-1)))) else (some (-1)))) = some r := h
  clear h
  replace H := Option.bind_eq_some_iff.mp H
  obtain ⟨t307, A30, H⟩ := H
  replace H : (if t307 = true then ((impl_within.f a1 1 60).bind fun t308 => (if t308 = true then (some (wrap64 ((wrap64 (100 * a0)) + a1))) else (some (-1)))) else (some (-1))) = some r := H
  have A3 := Aside0.mk A30
  clear A30
  by_cases c4 : t307 = true
  · subst c4
    have H1 : ((impl_within.f a1 1 60).bind fun t308 => (if t308 = true then (some (wrap64 ((wrap64 (100 * a0)) + a1))) else (some (-1)))) = some r := by rw [if_pos rfl] at H; exact H
    clear H;have H := H1;clear H1;replace H := Option.bind_eq_some_iff.mp H;obtain ⟨t308, A50, H⟩ := H;replace H : (if t308 = true then (some (wrap64 ((wrap64 (100 * a0)) + a1))) else (some (-1))) = some r := H;have A5 := Aside0.mk A50;clear A50
    by_cases c6 : t308 = true
    · subst c6
      have H1 : (some (wrap64 ((wrap64 (100 * a0)) + a1))) = some r := by rw [if_pos rfl] at H; exact H
      clear H;have H := H1;clear H1;obtain rfl := Option.some.inj H;simp only [Option.some.injEq, Prod.mk.injEq] at H;obtain ⟨rfl⟩ := H
      go_enter Try.func12, Try.ntmps12
      go_wp2_with (first | ((with_reducible refine gate_callee (f := 40) rfl ?_); refine goesL_ (some 6) rfl rfl Try.func40 (by kernel_rfl) rfl #[.int .i64 a0, .int .i64 0, .int .i64 2] rfl Z7x3 ?_; (with_reducible refine (impl_within.calls a0 0 2 true _ A3.out).mono ?_); rintro e w' ⟨rfl, ⟨nd, rfl⟩⟩; refine ⟨_, rfl, ?_⟩) | (go_at_call 40; (with_reducible refine (impl_within.calls a1 1 60 true _ A5.out).mono ?_); rintro e w' ⟨rfl, ⟨nd, rfl⟩⟩))
      go_ret
      exact ⟨Z7x6, by repeat (first | exact Drawn0.refl _ | apply Drawn0.step)⟩
    · replace c6 := Bool.eq_false_iff.mpr c6
      subst c6
      have H1 : (some (-1)) = some r := by rw [if_neg (show ¬ (false = true) by decide)] at H; exact H
      clear H;have H := H1;clear H1;obtain rfl := Option.some.inj H;simp only [Option.some.injEq, Prod.mk.injEq] at H;obtain ⟨rfl⟩ := H
      go_enter Try.func12, Try.ntmps12
      go_wp2_with (first | ((with_reducible refine gate_callee (f := 40) rfl ?_); refine goesL_ (some 6) rfl rfl Try.func40 (by kernel_rfl) rfl #[.int .i64 a0, .int .i64 0, .int .i64 2] rfl Z7x3 ?_; (with_reducible refine (impl_within.calls a0 0 2 true _ A3.out).mono ?_); rintro e w' ⟨rfl, ⟨nd, rfl⟩⟩; refine ⟨_, rfl, ?_⟩) | (go_at_call 40; (with_reducible refine (impl_within.calls a1 1 60 false _ A5.out).mono ?_); rintro e w' ⟨rfl, ⟨nd, rfl⟩⟩))
      go_ret
      exact ⟨Z7x6, by repeat (first | exact Drawn0.refl _ | apply Drawn0.step)⟩
  · replace c4 := Bool.eq_false_iff.mpr c4
    subst c4
    have H1 : (some (-1)) = some r := by rw [if_neg (show ¬ (false = true) by decide)] at H; exact H
    clear H;have H := H1;clear H1;obtain rfl := Option.some.inj H;simp only [Option.some.injEq, Prod.mk.injEq] at H;obtain ⟨rfl⟩ := H
    go_enter Try.func12, Try.ntmps12
    go_wp2_with (first | ((with_reducible refine gate_callee (f := 40) rfl ?_); refine goesL_ (some 6) rfl rfl Try.func40 (by kernel_rfl) rfl #[.int .i64 a0, .int .i64 0, .int .i64 2] rfl Z7x3 ?_; (with_reducible refine (impl_within.calls a0 0 2 false _ A3.out).mono ?_); rintro e w' ⟨rfl, ⟨nd, rfl⟩⟩; refine ⟨_, rfl, ?_⟩))
    go_ret
    exact ⟨Z7x6, by repeat (first | exact Drawn0.refl _ | apply Drawn0.step)⟩

def impl_copyInts.f (l0 : List Int) : Option (List Int) := if ([] : List Int).length + l0.length < 17592186044416 then (some (([] : List Int) ++ l0)) else (none)
set_option maxHeartbeats 8000000 in
set_option maxRecDepth 100000 in
theorem impl_copyInts.calls (A0 : Option Addr) (c0 : Nat) (l0 : List Int) (r : List Int) (w : World) (hr0 : Kd.C (Kd.int .i64) w A0 l0.length l0) (hc0 : l0.length ≤ c0) (h : impl_copyInts.f l0 = some r) :
    Calls Try.prog 71 #[.slice A0 l0.length c0] w fun e w' => ∃ v0_ : Value, e = .returned (v0_) ∧ Kd.R (Kd.int .i64) 3 w' w.heap.size (fun _ => True) v0_ r ∧ Below w.heap.size w w' := by
  have HR0 := Aside0.mk hr0
  have HC0 := Aside0.mk hc0
  clear hr0 hc0
  have HB := Aside0.mk (Below.refl w.heap.size w)
  have H : (if ([] : List Int).length + l0.length < 17592186044416 then (some (([] : List Int) ++ l0)) else (none)) = some r := h
  clear h
  by_cases c2 : ([] : List Int).length + l0.length < 17592186044416
  · rw [if_pos c2] at H
    have LMc2 := Aside0.mk c2;clear c2;obtain ⟨y309, hy309⟩ : ∃ y_ : List Int, y_ = (([] : List Int) ++ l0) := ⟨_, rfl⟩
    replace H : (some y309) = some r := by first | (rw [hy309]; with_reducible exact H) | (have H2_ := (Option.bind_some _ _).symm.trans H; rw [hy309]; with_reducible exact H2_) | (have H2_ := (Option.bind_some _ _).symm.trans H; with_reducible exact H2_) | with_reducible exact H | (rw [hy309]; exact H) | exact H
    have Ny309 := Aside0.mk hy309;clear hy309;obtain rfl := Option.some.inj H;simp only [Option.some.injEq, Prod.mk.injEq] at H;obtain ⟨rfl⟩ := H
    go_enter Try.func71, Try.ntmps71
    go_wp2_with (first | ((with_reducible refine gate_builtin (b := .append) (xs := #[.const (.slice none 0 0), .tmp 3]) rfl ?_); at_builtin; refine Kd.R_append_rows (Kd.int .i64) (w0 := w) w.heap.size rfl (.const (.slice none 0 0)) (.tmp 3) 24 3 (.int .i64 0) 8 rfl Try.underlying24 info3 rfl (by decide) (by omega) (.slice none 0 0) ([] : List Int) l0 _ _ _ (fun _ => True) (fun _ => False) rfl rfl ?aO ?aR (fun _ _ h => h) (fun _ h => h.elim) ?aF ?aB ?aS ?aL ?_; (case aR => repeat (first | exact HR0.out | (with_reducible refine Kd.C_alloc ?_ _) | (with_reducible refine Kd.C_drewN ?_ _) | (with_reducible refine Kd.C_drew ?_))); (case aB => exact Z7x1); (case aF => exact (fun _ _ => trivial)); (case aO => exact ((Kd.R_nil _ _ _ _ (fun _ => True)))); (case aS => exact (below_size Z7x1)); (case aL => have := LMc2.out; omega); intro v310 w3 ho hb hg hat; rw [← Ny309.out] at ho; have n0_ := Aside0.mk (hb); have n1_ := Aside0.mk (ho); clear HB; have HB := n0_; have HO311 := n1_; clear n0_ n1_; clear ho hb hg hat))
    go_ret
    exact ⟨_, by first | rfl | (simp [errW_none, errW_some] <;> rfl) | (simp [*, errW_none, errW_some] <;> rfl), by (with_reducible repeat (first | apply Kd.R_alloc | apply Kd.R_drewN | apply Kd.R_drew)); exact HO311.out, Z7x1⟩
  · rw [if_neg c2] at H
    exact absurd H (by simp)

def impl_counts.l0 : Nat → List Int → List (List Int) → Int → Int → Option (List Int)
  | 0, _, _, _, _ => none
  | k + 1, x3, x13, x14, x15 => if x15 < x14 then (if 0 ≤ x15 then (if x15 < (x13.length : Int) then (if x3.length + (rd_L2 x13 x15).length < 17592186044416 then (impl_counts.l0 k (x3 ++ (rd_L2 x13 x15)) x13 x14 (wrap64 (x15 + 1))) else (none)) else (none)) else (none)) else (some x3)
def impl_counts.f (k : Nat) (a0_0 : Int) (a0_1 : Int) (a0_2 : Int) (a0_3 : Int) (l0_4 : List Int) (l0_5 : List Int) (l0_6 : List (List Int)) : Option (List Int) := (impl_copyInts.f l0_4).bind fun t313 => (if t313.length + l0_5.length < 17592186044416 then (impl_counts.l0 k (t313 ++ l0_5) l0_6 (l0_6.length : Int) 0) else (none))
theorem impl_counts.mono_l : ∀ k, (∀ y0 y1 y2 y3, LeO (impl_counts.l0 k y0 y1 y2 y3) (impl_counts.l0 (k + 1) y0 y1 y2 y3))
  | 0 => fun _ _ _ _ r h => by simp [impl_counts.l0] at h
  | k + 1 => by
    have ih0 := impl_counts.mono_l k
    · intro y0 y1 y2 y3
      unfold impl_counts.l0
      repeat' first
      | (with_reducible exact ih0 _ _ _ _)
      | (with_reducible exact LeO.refl _)
      | (with_reducible exact LeO.none _)
      | (with_reducible refine LeO.ite ?_ ?_)
      | (with_reducible refine LeO.bind ?_ (fun _ => ?_))
      | exact ih0 _ _ _ _
      | exact LeO.none _
      | refine LeO.ite ?_ ?_
      | refine LeO.bind ?_ (fun _ => ?_)
theorem impl_counts.mono : ∀ a0 a1 a2 a3 a4 a5 a6 k, LeO (impl_counts.f k a0 a1 a2 a3 a4 a5 a6) (impl_counts.f (k + 1) a0 a1 a2 a3 a4 a5 a6) := by
  intro a0 a1 a2 a3 a4 a5 a6 k
  have ih0 := impl_counts.mono_l k
  unfold impl_counts.f
  repeat' first
      | (with_reducible exact ih0 _ _ _ _)
      | (with_reducible exact LeO.refl _)
      | (with_reducible exact LeO.none _)
      | (with_reducible refine LeO.ite ?_ ?_)
      | (with_reducible refine LeO.bind ?_ (fun _ => ?_))
      | exact ih0 _ _ _ _
      | exact LeO.none _
      | refine LeO.ite ?_ ?_
      | refine LeO.bind ?_ (fun _ => ?_)
set_option maxHeartbeats 8000000 in
set_option maxRecDepth 100000 in
theorem impl_counts.calls (k : Nat) (a0_0 : Int) (a0_1 : Int) (a0_2 : Int) (a0_3 : Int) (A0_4 : Option Addr) (c0_4 : Nat) (l0_4 : List Int) (A0_5 : Option Addr) (c0_5 : Nat) (l0_5 : List Int) (A0_6 : Option Addr) (c0_6 : Nat) (l0_6 : List (List Int)) (r : List Int) (w : World) (hr0_4 : Kd.C (Kd.int .i64) w A0_4 l0_4.length l0_4) (hc0_4 : l0_4.length ≤ c0_4) (hr0_5 : Kd.C (Kd.int .i64) w A0_5 l0_5.length l0_5) (hc0_5 : l0_5.length ≤ c0_5) (hr0_6 : Kd.C (Kd.slice 3 (Kd.int .i64)) w A0_6 l0_6.length l0_6) (hc0_6 : l0_6.length ≤ c0_6) (h : impl_counts.f k a0_0 a0_1 a0_2 a0_3 l0_4 l0_5 l0_6 = some r) :
    Calls Try.prog 65 #[.agg #[.int .i64 a0_0, .int .i64 a0_1, .int .i64 a0_2, .int .i64 a0_3, .slice A0_4 l0_4.length c0_4, .slice A0_5 l0_5.length c0_5, .slice A0_6 l0_6.length c0_6]] w fun e w' => ∃ v0_ : Value, e = .returned (v0_) ∧ Kd.R (Kd.int .i64) 3 w' w.heap.size (fun _ => True) v0_ r ∧ Below w.heap.size w w' := by
  have hu27 := Try.underlying27
  have HR0_4 := Aside0.mk hr0_4
  have HC0_4 := Aside0.mk hc0_4
  clear hr0_4 hc0_4
  have HR0_5 := Aside0.mk hr0_5
  have HC0_5 := Aside0.mk hc0_5
  clear hr0_5 hc0_5
  have HR0_6 := Aside0.mk hr0_6
  have HC0_6 := Aside0.mk hc0_6
  clear hr0_6 hc0_6
  have HB := Aside0.mk (Below.refl w.heap.size w)
  have H : ((impl_copyInts.f l0_4).bind fun t313 => (if t313.length + l0_5.length < 17592186044416 then (impl_counts.l0 k (t313 ++ l0_5) l0_6 (l0_6.length : Int) 0) else (none))) = some r := h
  clear h
  replace H := Option.bind_eq_some_iff.mp H
  obtain ⟨t313, A20, H⟩ := H
  replace H : (if t313.length + l0_5.length < 17592186044416 then (impl_counts.l0 k (t313 ++ l0_5) l0_6 (l0_6.length : Int) 0) else (none)) = some r := H
  have A2 := Aside0.mk A20
  clear A20
  by_cases c3 : t313.length + l0_5.length < 17592186044416
  · rw [if_pos c3] at H
    have LMc3 := Aside0.mk c3;clear c3;obtain ⟨y316, hy316⟩ : ∃ y_ : List Int, y_ = (t313 ++ l0_5) := ⟨_, rfl⟩
    replace H : (impl_counts.l0 k y316 l0_6 (l0_6.length : Int) 0) = some r := by first | (rw [hy316]; with_reducible exact H) | (have H2_ := (Option.bind_some _ _).symm.trans H; rw [hy316]; with_reducible exact H2_) | (have H2_ := (Option.bind_some _ _).symm.trans H; with_reducible exact H2_) | with_reducible exact H | (rw [hy316]; exact H) | exact H
    have Ny316 := Aside0.mk hy316;clear hy316;have H' := Aside0.mk H;clear H
    go_enter Try.func65, Try.ntmps65
    try go_wp2_with (first | ((with_reducible refine gate_dst (N := 1) rfl ?_); refine box_event ?hg (N := 1) ?hd (cs := #[.int .i64 a0_0, .int .i64 a0_1, .int .i64 a0_2, .int .i64 a0_3, .slice A0_4 l0_4.length c0_4, .slice A0_5 l0_5.length c0_5, .slice A0_6 l0_6.length c0_6]) (t := 27) ?hr ?_; (case hd => rfl); (case hg => rfl); (case hr => first | (go_simp; done) | (go_simp; rfl)); intro gb312 hg w4 hbox hb; have n0_ := Aside0.mk (below_step Z7x1 hb); have n1_ := Aside0.mk (hbox); have n2_ := Aside0.mk ((by rw [hg]; exact (below_size Z7x1) : w.heap.size ≤ gb312)); have n3_ := Aside0.mk ((by rw [hg]; exact (below_size Z7x1) : w.heap.size ≤ gb312)); clear HB; have HB := n0_; have BK312 := n1_; have GW312 := n2_; have GE312 := n3_; clear n0_ n1_ n2_ n3_; clear hb hbox hg))
    have n0_ := Aside0.mk (blk_drew BK312.out);have n1_ := Aside0.mk (below_drew1 HB.out);clear BK312;clear HB;have BK312 := n0_;have HB := n1_;clear n0_ n1_;refine start_ (n := 7) (S := fun w' => w'.cell? ⟨gb312, 0, none⟩ = some (.int .i64 a0_0) ∧ w'.cell? ⟨gb312, 1, none⟩ = some (.int .i64 a0_1) ∧ w'.cell? ⟨gb312, 2, none⟩ = some (.int .i64 a0_2) ∧ w'.cell? ⟨gb312, 3, none⟩ = some (.int .i64 a0_3) ∧ w'.cell? ⟨gb312, 4, none⟩ = some (.slice A0_4 l0_4.length c0_4) ∧ w'.cell? ⟨gb312, 5, none⟩ = some (.slice A0_5 l0_5.length c0_5) ∧ w'.cell? ⟨gb312, 6, none⟩ = some (.slice A0_6 l0_6.length c0_6)) (ds := []) #[false, false, false, false, false, false, false] (by kernel_rfl) rfl rfl ⟨(blk_cell BK312.out 0).trans rfl, (blk_cell BK312.out 1).trans rfl, (blk_cell BK312.out 2).trans rfl, (blk_cell BK312.out 3).trans rfl, (blk_cell BK312.out 4).trans rfl, (blk_cell BK312.out 5).trans rfl, (blk_cell BK312.out 6).trans rfl⟩ (fun hHeld => ?_);generalize w4.drew = w5 at BK312 HB hHeld ⊢;refine pure_ (i := 0) (N := some 6) (v := ?_) (a' := ?_) #[true, false, false, false, false, false, false] rfl rfl (by kernel_rfl) (fun _ _ _ h => h) (Or.inl ⟨by rfl, ?_⟩) ?_ ?_
    rotate_left
    · intro w'
      go_simp
      with_reducible rfl
    rotate_left
    · simp only [czP]
      rfl
    refine pure_ (i := 3) (N := some 9) (v := ?_) (a' := ?_) #[true, false, false, true, false, false, false] rfl rfl (by kernel_rfl) (fun _ _ _ h => h) (Or.inl ⟨by rfl, ?_⟩) ?_ ?_
    rotate_left
    · intro w'
      go_simp
      with_reducible rfl
    rotate_left
    · simp only [czP]
      rfl
    refine take_ (i := 1) (N := some 7) (v := ?_) (a' := ?_) #[true, true, false, true, false, false, false] rfl rfl (by kernel_rfl) (fun _ _ _ h => h) (Or.inl ⟨by rfl, ?_⟩) hHeld ?_ ?_
    rotate_left
    · rintro w' ⟨s0, s1, s2, s3, s4, s5, s6⟩
      go_simp
      with_reducible rfl
    rotate_left
    · simp only [czP]
      rfl
    refine take_ (i := 4) (N := some 10) (v := ?_) (a' := ?_) #[true, true, false, true, true, false, false] rfl rfl (by kernel_rfl) (fun _ _ _ h => h) (Or.inl ⟨by rfl, ?_⟩) hHeld ?_ ?_
    rotate_left
    · rintro w' ⟨s0, s1, s2, s3, s4, s5, s6⟩
      go_simp
      with_reducible rfl
    rotate_left
    · simp only [czP]
      rfl
    refine one_ (i := 2) (N := some 8) #[true, true, true, true, true, false, false] rfl rfl (by kernel_rfl) (by decide) (fun K hK => ?_);refine goes_ Try.func71 (by kernel_rfl) rfl #[.slice A0_4 l0_4.length c0_4] (by rfl) rfl rfl Z7x3 ?_
    with_reducible refine (impl_copyInts.calls _ _ l0_4 t313 _ ?side1 ?side2 A2.out).mono ?_
    (case side1 => repeat (first | exact (Kd.C_below HR0_4.out HB.out) | (with_reducible refine Kd.C_alloc ?_ _) | (with_reducible refine Kd.C_drewN ?_ _) | (with_reducible refine Kd.C_drew ?_)))
    (case side2 => exact HC0_4.out)
    rintro e w6 ⟨v314, rfl, ho0, hb⟩
    refine ⟨_, rfl, ?_⟩;have n0_ := Aside0.mk (Kd.R_lower ho0 (below_size Z7x0));have n1_ := Aside0.mk (blk_below (g := gb312) (o := .cells #[.int .i64 a0_0, .int .i64 a0_1, .int .i64 a0_2, .int .i64 a0_3, .slice A0_4 l0_4.length c0_4, .slice A0_5 l0_5.length c0_5, .slice A0_6 l0_6.length c0_6] 27 (0, 0)) Z7x5 hb);have n2_ := Aside0.mk (below_step Z7x0 hb);clear BK312;clear HB;have HO315 := n0_;have BK312 := n1_;have HB := n2_;clear n0_ n1_ n2_
    (try clear hb)
    (try clear hb2)
    (try clear hk)
    (try clear hi)
    (try clear ho0)
    refine hK.out _ _ ⟨(blk_cell BK312.out 0).trans rfl, (blk_cell BK312.out 1).trans rfl, (blk_cell BK312.out 2).trans rfl, (blk_cell BK312.out 3).trans rfl, (blk_cell BK312.out 4).trans rfl, (blk_cell BK312.out 5).trans rfl, (blk_cell BK312.out 6).trans rfl⟩ (fun hHeld => ?_);clear hK K;refine norm_ (a' := ?_) ?_ ?_
    rotate_left
    · show Act.put _ (some 8) _ = _
      simp only [czP]
      rfl
    refine one_ (i := 5) (N := some 11) #[true, true, true, true, true, true, false] rfl rfl (by kernel_rfl) (by decide) (fun K hK => ?_);refine Kd.R_append_rows_step (Kd.int .i64) (w0 := w) w.heap.size (by rfl) (.tmp 8) (.tmp 10) 24 3 (.int .i64 0) 8 rfl Try.underlying24 info3 rfl (by decide) (by omega) v314 t313 l0_5 _ _ _ (fun _ => True) (fun _ => False) rfl rfl ?aO ?aR (fun _ _ h => h) (fun _ h => h.elim) ?aF ?aB ?aS ?aL ?_
    (case aR => repeat (first | exact (Kd.C_below HR0_5.out HB.out) | (with_reducible refine Kd.C_alloc ?_ _) | (with_reducible refine Kd.C_drewN ?_ _) | (with_reducible refine Kd.C_drew ?_)))
    (case aB => exact Z7x0)
    (case aF => exact (fun _ _ => trivial))
    (case aO => exact (by (with_reducible repeat (first | apply Kd.R_alloc | apply Kd.R_drewN | apply Kd.R_drew)); exact HO315.out))
    (case aS => exact (below_size Z7x0))
    (case aL => have := LMc3.out; omega)
    intro v317 w7 ho hb hg hat;rw [← Ny316.out] at ho;have n0_ := Aside0.mk (blk_grown (g := gb312) (o := .cells #[.int .i64 a0_0, .int .i64 a0_1, .int .i64 a0_2, .int .i64 a0_3, .slice A0_4 l0_4.length c0_4, .slice A0_5 l0_5.length c0_5, .slice A0_6 l0_6.length c0_6] 27 (0, 0)) Z7x5 hg (Kd.R_ne HO315.out BK312.out (by decide)));have n1_ := Aside0.mk (hb);have n2_ := Aside0.mk (ho);clear BK312;clear HB;clear HO315;have BK312 := n0_;have HB := n1_;have HO318 := n2_;clear n0_ n1_ n2_;clear ho hb hg hat;refine hK.out _ _ ⟨(blk_cell BK312.out 0).trans rfl, (blk_cell BK312.out 1).trans rfl, (blk_cell BK312.out 2).trans rfl, (blk_cell BK312.out 3).trans rfl, (blk_cell BK312.out 4).trans rfl, (blk_cell BK312.out 5).trans rfl, (blk_cell BK312.out 6).trans rfl⟩ (fun hHeld => ?_);clear hK K;refine norm_ (a' := ?_) ?_ ?_
    rotate_left
    · show Act.put _ (some 11) _ = _
      simp only [czP]
      rfl
    refine pure_ (i := 6) (N := some 3) (v := ?_) (a' := ?_) #[true, true, true, true, true, true, true] rfl rfl (by kernel_rfl) (fun _ _ _ h => h) (Or.inl ⟨by rfl, ?_⟩) ?_ ?_
    rotate_left
    · intro w'
      go_simp
      with_reducible rfl
    rotate_left
    · simp only [czP]
      rfl
    refine done_ (by kernel_rfl) ?_;obtain ⟨hcz8_0, hcz8_1, hcz8_2, hcz8_3, hcz8_4, hcz8_5, hcz8_6⟩ := cz7 BK312.out;obtain ⟨hfz8_0, hfz8_1, hfz8_2, hfz8_3, hfz8_4, hfz8_5, hfz8_6⟩ := fz7 BK312.out
    try go_wp2
    go_loopg [3, 15] k (fun kq v3 v15 w' => ∃ (x3_1 : List Int) (x15_1 : Int), v15 = .int .i64 x15_1 ∧ Aside0 (impl_counts.l0 kq x3_1 l0_6 (l0_6.length : Int) x15_1 = some r) ∧ Aside0 (kq ≤ k) ∧ Aside0 (Kd.R (Kd.int .i64) 3 w' w.heap.size (fun _ => True) v3 x3_1) ∧ Aside0 (w'.heap[gb312]? = some (.cells #[.int .i64 a0_0, .int .i64 a0_1, .int .i64 a0_2, .int .i64 a0_3, (.slice A0_4 l0_4.length c0_4), (.slice A0_5 l0_5.length c0_5), (.slice A0_6 l0_6.length c0_6)] 27 (0, 0))) ∧ Aside0 (Below w.heap.size w w'))
    case atStart => exact ⟨(y316), (0), Z7x6, H', ⟨Nat.le_refl _⟩, ⟨by (with_reducible repeat (first | apply Kd.R_alloc | apply Kd.R_drewN | apply Kd.R_drew)); exact HO318.out⟩, ⟨Z7x5⟩, ⟨Z7x0⟩⟩
    case round =>
      clear H'
      try clear p2
      try clear c3
      try clear c6
      try clear c7
      try clear hcz8_0 hcz8_1 hcz8_2 hcz8_3 hcz8_4 hcz8_5 hcz8_6
      try clear hfz8_0 hfz8_1 hfz8_2 hfz8_3 hfz8_4 hfz8_5 hfz8_6
      (try clear BK312)
      obtain ⟨x3_1, x15_1, rfl, HA, HK1, HO_3, BK312, HB⟩ := hrel
      cases gk with
      | zero => exact absurd HA.out (by simp [impl_counts.l0])
      | succ k1 =>
        have H := HA.out;clear HA;simp only [impl_counts.l0] at H
        by_cases c9 : x15_1 < (l0_6.length : Int)
        · rw [if_pos c9] at H
          have c9b0 : decide (x15_1 < (l0_6.length : Int)) = true := decide_eq_true c9;clear c9
          by_cases c10 : 0 ≤ x15_1
          · rw [if_pos c10] at H
            have c10b0 : decide (0 ≤ x15_1) = true := decide_eq_true c10;clear c10
            by_cases c11 : x15_1 < (l0_6.length : Int)
            · rw [if_pos c11] at H
              have c11b0 : decide (x15_1 < (l0_6.length : Int)) = true := decide_eq_true c11;clear c11
              by_cases c12 : x3_1.length + (rd_L2 l0_6 x15_1).length < 17592186044416
              · rw [if_pos c12] at H
                have LMc12 := Aside0.mk c12;clear c12;obtain ⟨y320, hy320⟩ : ∃ y_ : List Int, y_ = (x3_1 ++ (rd_L2 l0_6 x15_1)) := ⟨_, rfl⟩
                replace H : (impl_counts.l0 k1 y320 l0_6 (l0_6.length : Int) (wrap64 (x15_1 + 1))) = some r := by first | (rw [hy320]; with_reducible exact H) | (have H2_ := (Option.bind_some _ _).symm.trans H; rw [hy320]; with_reducible exact H2_) | (have H2_ := (Option.bind_some _ _).symm.trans H; with_reducible exact H2_) | with_reducible exact H | (rw [hy320]; exact H) | exact H
                have Ny320 := Aside0.mk hy320;clear hy320;have H' := Aside0.mk H;clear H;have p319 : 0 ≤ (x15_1 : Int) := of_decide_eq_true (by first | (with_reducible assumption) | assumption);have q319 : x15_1 < (l0_6.length : Int) := of_decide_eq_true (by first | (with_reducible assumption) | assumption);obtain ⟨ad319, A319_0, c319_0, e319, hx319_0, hl319_0, hi319_0⟩ := at_L2 HR0_6.out x15_1 p319 q319
                cases e319
                replace hx319_0 := czB HB.out hx319_0;have HR319_0 := Aside0.mk hi319_0;have HC319_0 := Aside0.mk hl319_0;clear hi319_0 hl319_0;replace p319 := eq_true p319;replace q319 := eq_true q319
                go_wp2_with (first | ((with_reducible refine gate_builtin (b := .append) (xs := #[.tmp 19, .tmp 20]) rfl ?_); at_builtin; refine Kd.R_append_rows (Kd.int .i64) (w0 := w) w.heap.size rfl (.tmp 19) (.tmp 20) 24 3 (.int .i64 0) 8 rfl Try.underlying24 info3 rfl (by decide) (by omega) u3 x3_1 (rd_L2 l0_6 x15_1) _ _ _ (fun _ => True) (fun _ => False) rfl rfl ?aO ?aR (fun _ _ h => h) (fun _ h => h.elim) ?aF ?aB ?aS ?aL ?_; (case aR => repeat (first | exact (Kd.C_below HR319_0.out HB.out) | (with_reducible refine Kd.C_alloc ?_ _) | (with_reducible refine Kd.C_drewN ?_ _) | (with_reducible refine Kd.C_drew ?_))); (case aB => exact Z7x0); (case aF => exact (fun _ _ => trivial)); (case aO => exact (by (with_reducible repeat (first | apply Kd.R_alloc | apply Kd.R_drewN | apply Kd.R_drew)); exact HO_3.out)); (case aS => exact (below_size Z7x0)); (case aL => have := LMc12.out; omega); intro v321 w13 ho hb hg hat; rw [← Ny320.out] at ho; have n0_ := Aside0.mk (blk_grown (g := gb312) (o := .cells #[.int .i64 a0_0, .int .i64 a0_1, .int .i64 a0_2, .int .i64 a0_3, .slice A0_4 l0_4.length c0_4, .slice A0_5 l0_5.length c0_5, .slice (some ad319) l0_6.length c0_6] 27 (0, 0)) Z7x5 hg (Kd.R_ne HO_3.out BK312.out (by decide))); have n1_ := Aside0.mk (hb); have n2_ := Aside0.mk (ho); clear BK312; clear HB; clear HO_3; have BK312 := n0_; have HB := n1_; have HO322 := n2_; clear n0_ n1_ n2_; clear ho hb hg hat))
                go_roundg k1
                case measure => have := HK1.out; omega
                case rel => exact ⟨(y320), (wrap64 (x15_1 + 1)), Z7x6, H', ⟨by have := HK1.out; omega⟩, ⟨by (with_reducible repeat (first | apply Kd.R_alloc | apply Kd.R_drewN | apply Kd.R_drew)); exact HO322.out⟩, ⟨Z7x5⟩, ⟨Z7x0⟩⟩
              · rw [if_neg c12] at H
                exact absurd H (by simp)
            · rw [if_neg c11] at H
              exact absurd H (by simp)
          · rw [if_neg c10] at H
            exact absurd H (by simp)
        · rw [if_neg c9] at H
          have c9b0 : decide (x15_1 < (l0_6.length : Int)) = false := decide_eq_false c9;clear c9;obtain rfl := Option.some.inj H;simp only [Option.some.injEq, Prod.mk.injEq] at H;obtain ⟨rfl⟩ := H
          go_wp2
          go_ret
          exact ⟨_, by first | rfl | (simp [errW_none, errW_some] <;> rfl) | (simp [*, errW_none, errW_some] <;> rfl), by (with_reducible repeat (first | apply Kd.R_alloc | apply Kd.R_drewN | apply Kd.R_drew)); exact HO_3.out, Z7x0⟩
  · rw [if_neg c3] at H
    exact absurd H (by simp)

end Go.Proofs.Ytdciagkholijlaa.PFnItems
