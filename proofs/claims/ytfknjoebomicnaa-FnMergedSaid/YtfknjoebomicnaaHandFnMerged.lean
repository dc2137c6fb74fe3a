/- Sketches are merged in any order: the same comes of it; of none and one it is that one; the law is walked by hand. -/
import Derived.Test.YtfknjoebomicnaaPFnMergedx11
import Derived.Test.YtfknjoebomicnaaPFnMergedx12
import Derived.Test.YtfknjoebomicnaaPFnMergedx13
import Derived.Test.YtfknjoebomicnaaPFnMergedx3
import Derived.Test.YtfknjoebomicnaaPFnMergedx5
import Derived.Test.YtfknjoebomicnaaPFnMergedx7
import Derived.Test.YtfknjoebomicnaaPFnMergedx8
import Derived.Test.YtfknjoebomicnaaAid
import Derived.WalkKit
import Derived.Deep.RegionHeld3
import Derived.Deep.DeepCutAuto
import Derived.Shelf.Spec.TrailingZeros
namespace Go.Proofs.Ytfknjoebomicnaa.HFnMerged
open Go.RowKit Go.Proofs.Ytfknjoebomicnaa.PFnMerged Go.Proofs.YtfknjoebomicnaaW.PrintWords Go.Proofs.YtfknjoebomicnaaW.PrintLast Go.Proofs.YtfknjoebomicnaaW.PrintMore Go.Proofs.Ytfknjoebomicnaa.Aid
set_option linter.unusedVariables false
set_option linter.unusedSimpArgs false

structure Yf (W0 w : World) (g T : Nat) (Z : Array Value) (a : Nat) : Prop where
  bx : Bx w g T Z
  lo : W0.heap.size ≤ g
  hi : g < a
theorem sz_up (w : World) (o : Obj) : w.heap.size ≤ (w.alloc o).heap.size := by simp
section
variable {W0 wp w1 w' : World} {T g : Nat} {Z : Array Value} {a b a' : Nat} {x y z : Sl} {h r : List Int} {R : List (List Int)} {y' : Sl} {Z' : Array Value}
theorem reg_new (HB : Below W0.heap.size W0 wp) (hb : Below (wp.alloc (.cells Z T)).heap.size (wp.alloc (.cells Z T)) w1) (hm : Made (wp.alloc (.cells Z T)) w1 a b) : Below W0.heap.size W0 w1 ∧ Yf W0 w1 wp.heap.size T Z a ∧ Made wp w1 a b ∧ Below wp.heap.size wp w1 := by
  have s : (wp.alloc (.cells Z T)).heap.size = wp.heap.size + 1 := by simp
  have h1 := hm.1
  have hp := below_step (below_alloc (Below.refl _ wp) (.cells Z T)) hb
  exact ⟨below_step HB hp, ⟨(Bx.new wp T Z).below hb, HB.size, by omega⟩, ⟨by omega, hm.2⟩, hp⟩
theorem reg_new0 (hb : Below (W0.alloc (.cells Z T)).drew.heap.size (W0.alloc (.cells Z T)).drew w1) (hm : Made (W0.alloc (.cells Z T)).drew w1 a b) : Below W0.heap.size W0 w1 ∧ Yf W0 w1 W0.heap.size T Z a ∧ Made W0 w1 a b ∧ Below W0.heap.size W0 w1 := by
  have s : (W0.alloc (.cells Z T)).drew.heap.size = W0.heap.size + 1 := by simp
  have h1 := hm.1
  have hd : Below (W0.alloc (.cells Z T)).heap.size (W0.alloc (.cells Z T)) (W0.alloc (.cells Z T)).drew := below_drew (Below.refl _ _)
  have hp := below_step (below_step (below_alloc (Below.refl _ W0) (.cells Z T)) hd) hb
  exact ⟨hp, ⟨((Bx.new W0 T Z).below hd).below hb, Nat.le_refl _, by omega⟩, ⟨by omega, hm.2⟩, hp⟩
theorem reg_old (HB : Below W0.heap.size W0 wp) (y : Yf W0 wp g T Z a') (hb : Below wp.heap.size wp w1) (hm : Made wp w1 a b) : Below W0.heap.size W0 w1 ∧ Yf W0 w1 g T Z a := by
  have := y.bx.lt
  have := hm.1
  exact ⟨below_step HB hb, y.bx.below hb, y.lo, by omega⟩
theorem reg_end_sk (HB : Below W0.heap.size W0 wp) (y : Yf W0 wp g T Z a) (m : W0.heap.size ≤ a ∧ a ≤ b ∧ b ≤ wp.heap.size) (s : Sk wp a b x y' z h r R) (f : Bx w' g T Z' ∧ Kp wp w' g (g + 1)) : Sk w' a b x y' z h r R ∧ Bx w' g T Z' ∧ Below W0.heap.size W0 w' ∧ W0.heap.size ≤ g ∧ g < w'.heap.size ∧ W0.heap.size ≤ a ∧ a ≤ b ∧ b ≤ w'.heap.size := by
  have := y.hi
  have := f.2.kept.1
  exact ⟨s.kp f.2 (.inl (by omega)), f.1, below_kp HB f.2 y.lo HB.size, y.lo, f.1.lt, m.1, m.2.1, by omega⟩
theorem reg_last_sk (F : Array Value) (T : Nat) (HB : Below W0.heap.size W0 wp) (m : W0.heap.size ≤ a ∧ a ≤ b ∧ b ≤ wp.heap.size) (s : Sk wp a b x y' z h r R) : Sk (wp.alloc (.cells F T)) a b x y' z h r R ∧ Bx (wp.alloc (.cells F T)) wp.heap.size T F ∧ Below W0.heap.size W0 (wp.alloc (.cells F T)) ∧ W0.heap.size ≤ wp.heap.size ∧ wp.heap.size < (wp.alloc (.cells F T)).heap.size ∧ W0.heap.size ≤ a ∧ a ≤ b ∧ b ≤ (wp.alloc (.cells F T)).heap.size := by
  have s1 : (wp.alloc (.cells F T)).heap.size = wp.heap.size + 1 := by simp
  exact ⟨s.below (below_alloc (Below.refl _ wp) (.cells F T)), Bx.new wp T F, below_step HB (below_alloc (Below.refl _ wp) (.cells F T)), HB.size, by omega, m.1, m.2.1, by omega⟩
end
theorem implM_callD (k : Nat) {w : World} {x y z x' y' z' : Sl} {h r h' r' : List Int} {R R' : List (List Int)} (c s lo hi c' s' lo' hi' c1 s1 lo1 hi1 : Int) (h1 r1 : List Int) (R1 : List (List Int)) (t : Bool) (u : Rd w x y z h r R) (u' : Rd w x' y' z' h' r' R') (he : impl_Merge.f k c s lo hi h r R c' s' lo' hi' h' r' R' = some (c1, s1, lo1, hi1, h1, r1, R1, t)) :
    Calls Try.prog 20 #[.agg #[.int .i64 c, .int .i64 s, .int .i64 lo, .int .i64 hi, .slice x.A x.n x.c, .slice y.A y.n y.c, .slice z.A z.n z.c], .agg #[.int .i64 c', .int .i64 s', .int .i64 lo', .int .i64 hi', .slice x'.A x'.n x'.c, .slice y'.A y'.n y'.c, .slice z'.A z'.n z'.c]] w fun e w' => ∃ (x1 y1 z1 : Sl) (a b : Nat), e = .returned (.tuple #[.agg #[.int .i64 c1, .int .i64 s1, .int .i64 lo1, .int .i64 hi1, .slice x1.A x1.n x1.c, .slice y1.A y1.n y1.c, .slice z1.A z1.n z1.c], .bool t]) ∧ Sk w' a b x1 y1 z1 h1 r1 R1 ∧ Made w w' a b ∧ Below w.heap.size w w' := by
  rw [u.e4, u.e5, u.e6, u'.e4, u'.e5, u'.e6]
  refine (impl_Merge.calls k c s lo hi _ _ h _ _ r _ _ R c' s' lo' hi' _ _ h' _ _ r' _ _ R' c1 s1 lo1 hi1 h1 r1 R1 t w u.C4 u.l4 u.C5 u.l5 u.C6 u.l6 u'.C4 u'.l4 u'.C5 u'.l5 u'.C6 u'.l6 he).mono ?_
  rintro e w' ⟨v4, v5, v6, rfl, h4, h5, h6, hb⟩
  obtain ⟨x1, y1, z1, rfl, rfl, rfl, hs⟩ := Sk.of h4 h5 h6 (fun _ hk => hk) (fun _ hk => hk)
  exact ⟨x1, y1, z1, _, _, rfl, hs, ⟨Nat.le_refl _, hb.size, Nat.le_refl _⟩, hb⟩
structure Cu (w0 w : World) (g : Nat) (l : List Int) (p r : Int) : Prop where
  i : IsS107 w0 w g l p r
  b : Below w0.heap.size w0 w
theorem Cu.below {w0 w W : World} {g : Nat} {l : List Int} {p r : Int} (c : Cu w0 w g l p r) (hb : Below w.heap.size w W) : Cu w0 W g l p r := ⟨c.i.below hb, below_step c.b hb⟩
theorem Cu.kp {w0 w W : World} {g : Nat} {l : List Int} {p r p' r' : Int} (c : Cu w0 w g l p r) (d : Cu w0 W g l p' r') (k : KeepBut w W g none) : Kp w W g (g + 1) :=
  ⟨d.b.os.trans c.b.os.symm, d.b.tape.trans c.b.tape.symm, d.b.output.trans c.b.output.symm, ⟨k.1, fun i hi hs => k.2 i hi (fun e => hs (by omega)) (by simp)⟩⟩
theorem draw_cu (k : Nat) {w0 w : World} {g : Nat} {l : List Int} {p r c s lo hi r8 r9 : Int} {h t : List Int} {R : List (List Int)} (u : Cu w0 w g l p r) (he : spec_l3Draw.f k l p r = some (c, s, lo, hi, h, t, R, r8, r9)) :
    Calls Try.prog 74 #[.pointer (some ⟨g, 0, none⟩)] w fun e w' => ∃ (x y z : Sl) (a b : Nat), e = .returned (.agg #[.int .i64 c, .int .i64 s, .int .i64 lo, .int .i64 hi, .slice x.A x.n x.c, .slice y.A y.n y.c, .slice z.A z.n z.c]) ∧ Sk w' a b x y z h t R ∧ Made w w' a b ∧ Cu w0 w' g l r8 r9 ∧ KeepBut w w' g none := by
  refine (spec_l3Draw.calls k g l p r c s lo hi h t R r8 r9 w0 w u.i u.b he).mono ?_
  rintro e w' ⟨v4, v5, v6, rfl, h4, h5, h6, hi, hb, hk⟩
  obtain ⟨x, y, z, rfl, rfl, rfl, hs⟩ := Sk.of h4 h5 h6 (fun _ hk => hk) (fun _ hk => hk)
  exact ⟨x, y, z, _, _, rfl, hs, ⟨Nat.le_refl _, hk.1, Nat.le_refl _⟩, ⟨hi, hb⟩, hk⟩
theorem once_cu {w0 w : World} {g : Nat} {l : List Int} {p r a1 r2 r3 : Int} {t : Bool} (c : Cu w0 w g l p r) (h : spec_l1Once.f l p r a1 = some (t, r2, r3)) :
    Calls Try.prog 95 #[.pointer (some ⟨g, 0, none⟩), .int .i64 a1] w fun e w' => e = .returned (.bool t) ∧ Cu w0 w' g l r2 r3 ∧ KeepBut w w' g none := by
  refine (spec_l1Once.calls g l p r a1 t r2 r3 w0 w c.i c.b h).mono ?_
  rintro e w' ⟨rfl, h1, h2, h3⟩
  exact ⟨rfl, ⟨h1, h2⟩, h3⟩
theorem new_cu (k : Nat) {w : World} {v : Sl} {l L : List Int} {p r : Int} (u : Bd w v l) (he : spec_l1New.f k l = some (L, p, r)) :
    Calls Try.prog 73 #[.slice v.A v.n v.c] w fun e w' => ∃ g : Nat, e = .returned (.pointer (some ⟨g, 0, none⟩)) ∧ Cu w w' g L p r := by
  rw [u.e]
  refine (spec_l1New.calls k _ _ l L p r w w (Below.refl _ _) u.C u.le he).mono ?_
  rintro e w' ⟨g, rfl, h1, h2, _⟩
  exact ⟨g, rfl, h1, h2⟩
theorem Cu.ge {w0 w : World} {g : Nat} {l : List Int} {p r : Int} (c : Cu w0 w g l p r) : w0.heap.size ≤ g := by
  obtain ⟨_, _, _, h, _⟩ := c.i
  exact h
theorem Cu.lt {w0 w : World} {g : Nat} {l : List Int} {p r : Int} (c : Cu w0 w g l p r) : g < w.heap.size := by
  obtain ⟨_, _, h, _⟩ := c.i
  exact blk_lt h
theorem copy_cu (k : Nat) {w : World} {x y z : Sl} {h r : List Int} {R : List (List Int)} (c s lo hi c1 s1 lo1 hi1 : Int) (h1 r1 : List Int) (R1 : List (List Int)) (u : Rd w x y z h r R) (he : spec_l3Copy.f k c s lo hi h r R = some (c1, s1, lo1, hi1, h1, r1, R1)) :
    Calls Try.prog 96 #[.agg #[.int .i64 c, .int .i64 s, .int .i64 lo, .int .i64 hi, .slice x.A x.n x.c, .slice y.A y.n y.c, .slice z.A z.n z.c]] w fun e w' => ∃ (x1 y1 z1 : Sl) (a b : Nat), e = .returned (.agg #[.int .i64 c1, .int .i64 s1, .int .i64 lo1, .int .i64 hi1, .slice x1.A x1.n x1.c, .slice y1.A y1.n y1.c, .slice z1.A z1.n z1.c]) ∧ Sk w' a b x1 y1 z1 h1 r1 R1 ∧ Made w w' a b ∧ Below w.heap.size w w' := by
  rw [u.e4, u.e5, u.e6]
  refine (spec_l3Copy.calls k c s lo hi _ _ h _ _ r _ _ R c1 s1 lo1 hi1 h1 r1 R1 w u.C4 u.l4 u.C5 u.l5 u.C6 u.l6 he).mono ?_
  rintro e w' ⟨v4, v5, v6, rfl, h4, h5, h6, hb⟩
  obtain ⟨x1, y1, z1, rfl, rfl, rfl, hs⟩ := Sk.of h4 h5 h6 (fun _ hk => hk) (fun _ hk => hk)
  exact ⟨x1, y1, z1, _, _, rfl, hs, ⟨Nat.le_refl _, hb.size, Nat.le_refl _⟩, hb⟩
structure Two (w W : World) : Prop where
  o : Bx W w.heap.size 26 #[.int .i64 0, .int .i64 0, .int .i64 0, .int .i64 0, .slice none 0 0, .slice none 0 0, .slice none 0 0]
  p : Bx W (w.heap.size + 1) 26 #[.int .i64 0, .int .i64 0, .int .i64 0, .int .i64 0, .slice none 0 0, .slice none 0 0, .slice none 0 0]
  l : Below w.heap.size w W
  n : w.heap.size + 2 ≤ W.heap.size
theorem Two.below {w W W1 : World} (m : Two w W) (hb : Below W.heap.size W W1) : Two w W1 := ⟨m.o.below hb, m.p.below hb, below_step m.l hb, Nat.le_trans m.n hb.size⟩
theorem Two.kp {w W W1 : World} {a b : Nat} (m : Two w W) (k : Kp W W1 a b) (ha : w.heap.size + 2 ≤ a) : Two w W1 := ⟨m.o.kp k (.inl (by omega)), m.p.kp k (.inl (by omega)), below_kp m.l k (by omega) m.l.size, Nat.le_trans m.n k.kept.1⟩
theorem two_in (w : World) : Two w ((w.alloc (.cells #[.int .i64 0, .int .i64 0, .int .i64 0, .int .i64 0, .slice none 0 0, .slice none 0 0, .slice none 0 0] 26)).alloc (.cells #[.int .i64 0, .int .i64 0, .int .i64 0, .int .i64 0, .slice none 0 0, .slice none 0 0, .slice none 0 0] 26)) := by
  have s1 : (w.alloc (.cells #[.int .i64 0, .int .i64 0, .int .i64 0, .int .i64 0, .slice none 0 0, .slice none 0 0, .slice none 0 0] 26)).heap.size = w.heap.size + 1 := by simp
  have b2 := Bx.new (w.alloc (.cells #[.int .i64 0, .int .i64 0, .int .i64 0, .int .i64 0, .slice none 0 0, .slice none 0 0, .slice none 0 0] 26)) 26 #[.int .i64 0, .int .i64 0, .int .i64 0, .int .i64 0, .slice none 0 0, .slice none 0 0, .slice none 0 0]
  rw [s1] at b2
  exact ⟨(Bx.new w 26 #[.int .i64 0, .int .i64 0, .int .i64 0, .int .i64 0, .slice none 0 0, .slice none 0 0, .slice none 0 0]).below (below_alloc (Below.refl _ _) _), b2, below_alloc (below_alloc (Below.refl _ _) _) _, by simp⟩
theorem Two.fill {w W : World} (m : Two w W) (v0_ v1_ v2_ v3_ v4_ v5_ v6_ q0_ q1_ q2_ q3_ q4_ q5_ q6_ : Value) :
    Bx ((((((((((((((W.setCell ⟨w.heap.size, 0, none⟩ v0_).setCell ⟨w.heap.size, 1, none⟩ v1_).setCell ⟨w.heap.size, 2, none⟩ v2_).setCell ⟨w.heap.size, 3, none⟩ v3_).setCell ⟨w.heap.size, 4, none⟩ v4_).setCell ⟨w.heap.size, 5, none⟩ v5_).setCell ⟨w.heap.size, 6, none⟩ v6_).setCell ⟨w.heap.size + 1, 0, none⟩ q0_).setCell ⟨w.heap.size + 1, 1, none⟩ q1_).setCell ⟨w.heap.size + 1, 2, none⟩ q2_).setCell ⟨w.heap.size + 1, 3, none⟩ q3_).setCell ⟨w.heap.size + 1, 4, none⟩ q4_).setCell ⟨w.heap.size + 1, 5, none⟩ q5_).setCell ⟨w.heap.size + 1, 6, none⟩ q6_) w.heap.size 26 #[v0_, v1_, v2_, v3_, v4_, v5_, v6_] ∧ Bx ((((((((((((((W.setCell ⟨w.heap.size, 0, none⟩ v0_).setCell ⟨w.heap.size, 1, none⟩ v1_).setCell ⟨w.heap.size, 2, none⟩ v2_).setCell ⟨w.heap.size, 3, none⟩ v3_).setCell ⟨w.heap.size, 4, none⟩ v4_).setCell ⟨w.heap.size, 5, none⟩ v5_).setCell ⟨w.heap.size, 6, none⟩ v6_).setCell ⟨w.heap.size + 1, 0, none⟩ q0_).setCell ⟨w.heap.size + 1, 1, none⟩ q1_).setCell ⟨w.heap.size + 1, 2, none⟩ q2_).setCell ⟨w.heap.size + 1, 3, none⟩ q3_).setCell ⟨w.heap.size + 1, 4, none⟩ q4_).setCell ⟨w.heap.size + 1, 5, none⟩ q5_).setCell ⟨w.heap.size + 1, 6, none⟩ q6_) (w.heap.size + 1) 26 #[q0_, q1_, q2_, q3_, q4_, q5_, q6_] ∧ Below w.heap.size w ((((((((((((((W.setCell ⟨w.heap.size, 0, none⟩ v0_).setCell ⟨w.heap.size, 1, none⟩ v1_).setCell ⟨w.heap.size, 2, none⟩ v2_).setCell ⟨w.heap.size, 3, none⟩ v3_).setCell ⟨w.heap.size, 4, none⟩ v4_).setCell ⟨w.heap.size, 5, none⟩ v5_).setCell ⟨w.heap.size, 6, none⟩ v6_).setCell ⟨w.heap.size + 1, 0, none⟩ q0_).setCell ⟨w.heap.size + 1, 1, none⟩ q1_).setCell ⟨w.heap.size + 1, 2, none⟩ q2_).setCell ⟨w.heap.size + 1, 3, none⟩ q3_).setCell ⟨w.heap.size + 1, 4, none⟩ q4_).setCell ⟨w.heap.size + 1, 5, none⟩ q5_).setCell ⟨w.heap.size + 1, 6, none⟩ q6_) ∧ Kp W ((((((((((((((W.setCell ⟨w.heap.size, 0, none⟩ v0_).setCell ⟨w.heap.size, 1, none⟩ v1_).setCell ⟨w.heap.size, 2, none⟩ v2_).setCell ⟨w.heap.size, 3, none⟩ v3_).setCell ⟨w.heap.size, 4, none⟩ v4_).setCell ⟨w.heap.size, 5, none⟩ v5_).setCell ⟨w.heap.size, 6, none⟩ v6_).setCell ⟨w.heap.size + 1, 0, none⟩ q0_).setCell ⟨w.heap.size + 1, 1, none⟩ q1_).setCell ⟨w.heap.size + 1, 2, none⟩ q2_).setCell ⟨w.heap.size + 1, 3, none⟩ q3_).setCell ⟨w.heap.size + 1, 4, none⟩ q4_).setCell ⟨w.heap.size + 1, 5, none⟩ q5_).setCell ⟨w.heap.size + 1, 6, none⟩ q6_) w.heap.size (w.heap.size + 2) := by
  obtain ⟨h1, k1⟩ := m.o.fill v0_ v1_ v2_ v3_ v4_ v5_ v6_
  have hp := m.p.kp k1 (.inr (by omega))
  obtain ⟨h2, k2⟩ := hp.fill q0_ q1_ q2_ q3_ q4_ q5_ q6_
  have K1 : Kp W _ w.heap.size (w.heap.size + 2) := ⟨k1.os, k1.tape, k1.output, k1.kept.mono (fun i hi => ⟨hi.1, by omega⟩)⟩
  have K2 : Kp _ _ w.heap.size (w.heap.size + 2) := ⟨k2.os, k2.tape, k2.output, k2.kept.mono (fun i hi => ⟨by omega, by omega⟩)⟩
  have K := K1.trans K2
  exact ⟨h1.kp k2 (.inl (by omega)), h2, below_kp m.l K (Nat.le_refl _) m.l.size, K⟩
def TwoOut (c s lo hi : Int) (h r : List Int) (R : List (List Int)) (c' s' lo' hi' : Int) (h' r' : List Int) (R' : List (List Int)) (w : World) (e : Ending) (w' : World) : Prop := ∃ (x y z x' y' z' : Sl) (a b a' b' : Nat), e = .returned (.tuple #[.agg #[.int .i64 c, .int .i64 s, .int .i64 lo, .int .i64 hi, .slice x.A x.n x.c, .slice y.A y.n y.c, .slice z.A z.n z.c], .agg #[.int .i64 c', .int .i64 s', .int .i64 lo', .int .i64 hi', .slice x'.A x'.n x'.c, .slice y'.A y'.n y'.c, .slice z'.A z'.n z'.c]]) ∧ Sk w' a b x y z h r R ∧ Sk w' a' b' x' y' z' h' r' R' ∧ w.heap.size ≤ a ∧ w.heap.size ≤ a' ∧ Below w.heap.size w w'
structure TwoF (k : Nat) (l L : List Int) (p0 r0 : Int) (c s lo hi : Int) (h r : List Int) (R : List (List Int)) (p1 r1 : Int) (c' s' lo' hi' : Int) (h' r' : List Int) (R' : List (List Int)) (p2 r2 : Int) (t : Bool) (p3 r3 : Int) : Prop where
  N : spec_l1New.f k l = some (L, p0, r0)
  D : spec_l3Draw.f k L p0 r0 = some (c, s, lo, hi, h, r, R, p1, r1)
  E : spec_l3Draw.f k L p1 r1 = some (c', s', lo', hi', h', r', R', p2, r2)
  O : spec_l1Once.f L p2 r2 4 = some (t, p3, r3)
set_option maxHeartbeats 8000000 in
set_option maxRecDepth 100000 in
theorem l3two0 (k : Nat) {w : World} {v : Sl} {l L : List Int} {p0 r0 c s lo hi p1 r1 c' s' lo' hi' p2 r2 p3 r3 : Int} {h r h' r' : List Int} {R R' : List (List Int)} (u : Bd w v l) (F : Aside0 (TwoF k l L p0 r0 c s lo hi h r R p1 r1 c' s' lo' hi' h' r' R' p2 r2 false p3 r3)) :
    Calls Try.prog 69 #[.slice v.A v.n v.c] w (TwoOut c s lo hi h r R c' s' lo' hi' h' r' R' w) := by
  have M0 := Aside0.mk (two_in w)
  have U := Aside0.mk (u.below M0.out.l)
  clear u
  go_enter Try.func69, Try.ntmps69
  go_wp2_with fail
  refine (new_cu k U.out F.out.N).mono ?_
  rintro e w1 ⟨g, rfl, u1⟩
  clear U
  have M1 := Aside0.mk (M0.out.below u1.b)
  have hg0 := Aside0.mk (Nat.le_trans M0.out.n u1.ge)
  have C1 := Aside0.mk u1
  clear u1 M0
  generalize ((w.alloc (.cells #[.int .i64 0, .int .i64 0, .int .i64 0, .int .i64 0, .slice none 0 0, .slice none 0 0, .slice none 0 0] 26)).alloc (.cells #[.int .i64 0, .int .i64 0, .int .i64 0, .int .i64 0, .slice none 0 0, .slice none 0 0, .slice none 0 0] 26)) = W0 at *
  go_wp2_with fail
  refine (draw_cu k C1.out F.out.D).mono ?_
  rintro e w2 ⟨x, y, z, a, b, rfl, hs, hm, u2, hk⟩
  have hk2 := C1.out.kp u2 hk
  have hl2 := C1.out.lt
  unfold Made at hm
  have hb := below_alloc (Below.refl _ w2) (.cells #[.int .i64 c, .int .i64 s, .int .i64 lo, .int .i64 hi, .slice x.A x.n x.c, .slice y.A y.n y.c, .slice z.A z.n z.c] 26)
  have M3 := Aside0.mk ((M1.out.kp hk2 hg0.out).below hb)
  have S3 := Aside0.mk (hs.below hb)
  have C3 := Aside0.mk (u2.below hb)
  have X3 := Aside0.mk (Bx.new w2 26 #[.int .i64 c, .int .i64 s, .int .i64 lo, .int .i64 hi, .slice x.A x.n x.c, .slice y.A y.n y.c, .slice z.A z.n z.c])
  have N3 := Aside0.mk (show g + 1 ≤ a ∧ a ≤ b ∧ b ≤ w2.heap.size by omega)
  clear hk hs hm u2 hk2 hl2 hb C1 M1
  go_wp2_with fail
  refine (draw_cu k C3.out F.out.E).mono ?_
  rintro e w4 ⟨x', y', z', a', b', rfl, hs, hm, u4, hk⟩
  have hk2 := C3.out.kp u4 hk
  unfold Made at hm
  have hq : (w2.alloc (.cells #[.int .i64 c, .int .i64 s, .int .i64 lo, .int .i64 hi, .slice x.A x.n x.c, .slice y.A y.n y.c, .slice z.A z.n z.c] 26)).heap.size = w2.heap.size + 1 := by simp
  have n3 := N3.out
  have hl2 : w2.heap.size + 1 ≤ a' := by omega
  have hb := below_alloc (Below.refl _ w4) (.cells #[.int .i64 c', .int .i64 s', .int .i64 lo', .int .i64 hi', .slice x'.A x'.n x'.c, .slice y'.A y'.n y'.c, .slice z'.A z'.n z'.c] 26)
  have M5 := Aside0.mk ((M3.out.kp hk2 hg0.out).below hb)
  have S5 := Aside0.mk ((S3.out.kp hk2 (.inl (by omega))).below hb)
  have T5 := Aside0.mk (hs.below hb)
  have C5 := Aside0.mk (u4.below hb)
  have X5 := Aside0.mk ((X3.out.kp hk2 (.inr (by omega))).below hb)
  have Y5 := Aside0.mk (Bx.new w4 26 #[.int .i64 c', .int .i64 s', .int .i64 lo', .int .i64 hi', .slice x'.A x'.n x'.c, .slice y'.A y'.n y'.c, .slice z'.A z'.n z'.c])
  have N5 := Aside0.mk (show g + 1 ≤ a ∧ a ≤ b ∧ b ≤ w2.heap.size ∧ w2.heap.size + 1 ≤ a' ∧ a' ≤ b' ∧ b' ≤ w4.heap.size by omega)
  clear hk hs hm u4 hk2 hl2 hb C3 M3 S3 X3 N3 n3 hq
  go_wp2_with fail
  refine (once_cu C5.out F.out.O).mono ?_
  rintro e w6 ⟨rfl, u6, hk⟩
  have hk2 := C5.out.kp u6 hk
  have n5 := N5.out
  have M := Aside0.mk (M5.out.kp hk2 hg0.out)
  have S := Aside0.mk (S5.out.kp hk2 (.inl (by omega)))
  have T := Aside0.mk (T5.out.kp hk2 (.inl (by omega)))
  have X := Aside0.mk (X5.out.kp hk2 (.inr (by omega)))
  have Y := Aside0.mk (Y5.out.kp hk2 (.inr (by omega)))
  have hg2 := Aside0.mk (show w.heap.size + 2 ≤ a ∧ w.heap.size + 2 ≤ a' ∧ w.heap.size + 2 ≤ w2.heap.size ∧ w.heap.size + 2 ≤ w4.heap.size by have := hg0.out; omega)
  clear hk u6 hk2 n5 C5 M5 S5 T5 X5 Y5
  generalize w2.heap.size = gA at *
  generalize w4.heap.size = gB at *
  have LS := Aside0.mk (show ∀ W' : World, Bx W' gA 26 #[.int .i64 c, .int .i64 s, .int .i64 lo, .int .i64 hi, .slice x.A x.n x.c, .slice y.A y.n y.c, .slice z.A z.n z.c] → Bx W' gB 26 #[.int .i64 c', .int .i64 s', .int .i64 lo', .int .i64 hi', .slice x'.A x'.n x'.c, .slice y'.A y'.n y'.c, .slice z'.A z'.n z'.c] → (fun w' : World => w'.cell? ⟨gA, 0, none⟩ = some (.int .i64 c) ∧ w'.cell? ⟨gA, 1, none⟩ = some (.int .i64 s) ∧ w'.cell? ⟨gA, 2, none⟩ = some (.int .i64 lo) ∧ w'.cell? ⟨gA, 3, none⟩ = some (.int .i64 hi) ∧ w'.cell? ⟨gA, 4, none⟩ = some (.slice x.A x.n x.c) ∧ w'.cell? ⟨gA, 5, none⟩ = some (.slice y.A y.n y.c) ∧ w'.cell? ⟨gA, 6, none⟩ = some (.slice z.A z.n z.c) ∧ w'.cell? ⟨gB, 0, none⟩ = some (.int .i64 c') ∧ w'.cell? ⟨gB, 1, none⟩ = some (.int .i64 s') ∧ w'.cell? ⟨gB, 2, none⟩ = some (.int .i64 lo') ∧ w'.cell? ⟨gB, 3, none⟩ = some (.int .i64 hi') ∧ w'.cell? ⟨gB, 4, none⟩ = some (.slice x'.A x'.n x'.c) ∧ w'.cell? ⟨gB, 5, none⟩ = some (.slice y'.A y'.n y'.c) ∧ w'.cell? ⟨gB, 6, none⟩ = some (.slice z'.A z'.n z'.c)) W' from fun W' ba bb => by
    obtain ⟨x0, x1, x2, x3, x4, x5, x6⟩ := ba.cells
    obtain ⟨y0, y1, y2, y3, y4, y5, y6⟩ := bb.cells
    exact ⟨x0, x1, x2, x3, x4, x5, x6, y0, y1, y2, y3, y4, y5, y6⟩)
  obtain ⟨x0, x1, x2, x3, x4, x5, x6⟩ := X.out.cells
  obtain ⟨y0, y1, y2, y3, y4, y5, y6⟩ := Y.out.cells
  have hD := below_drew (Below.refl w6.heap.size w6)
  have M6 := M
  have X6 := X
  have Y6 := Y
  have S6 := S
  have T6 := T
  replace M := Aside0.mk (M.out.below hD)
  replace S := Aside0.mk (S.out.below hD)
  replace T := Aside0.mk (T.out.below hD)
  replace X := Aside0.mk (X.out.below hD)
  replace Y := Aside0.mk (Y.out.below hD)
  clear hD
  go_wp2_with fail
  obtain ⟨o0, o1, o2, o3, o4, o5, o6⟩ := M6.out.o.cells
  have fo := M6.out.o.fz
  obtain ⟨p0, p1, p2, p3, p4, p5, p6⟩ := M6.out.p.cells
  have fp := M6.out.p.fz
  have hne1 : w.heap.size ≠ w.heap.size + 1 := (by omega)
  have KS := Aside0.mk (fun (u0_ u1_ u2_ u3_ u4_ u5_ u6_ : Value) => LS.out _ ((X6.out.kp (M6.out.o.fill u0_ u1_ u2_ u3_ u4_ u5_ u6_).2 (.inr (by have := hg2.out; omega))).below (below_drew (Below.refl _ _))) ((Y6.out.kp (M6.out.o.fill u0_ u1_ u2_ u3_ u4_ u5_ u6_).2 (.inr (by have := hg2.out; omega))).below (below_drew (Below.refl _ _))))
  have KT := Aside0.mk (fun (u0_ u1_ u2_ u3_ u4_ u5_ u6_ q0_ q1_ q2_ q3_ q4_ q5_ q6_ : Value) => LS.out _ (((X6.out.kp (M6.out.o.fill u0_ u1_ u2_ u3_ u4_ u5_ u6_).2 (.inr (by have := hg2.out; omega))).kp (((M6.out.p.kp (M6.out.o.fill u0_ u1_ u2_ u3_ u4_ u5_ u6_).2 (.inr (by omega))).fill q0_ q1_ q2_ q3_ q4_ q5_ q6_).2) (.inr (by have := hg2.out; omega))).below (below_drew (Below.refl _ _))) (((Y6.out.kp (M6.out.o.fill u0_ u1_ u2_ u3_ u4_ u5_ u6_).2 (.inr (by have := hg2.out; omega))).kp (((M6.out.p.kp (M6.out.o.fill u0_ u1_ u2_ u3_ u4_ u5_ u6_).2 (.inr (by omega))).fill q0_ q1_ q2_ q3_ q4_ q5_ q6_).2) (.inr (by have := hg2.out; omega))).below (below_drew (Below.refl _ _))))
  go_region_held3 (fun w' : World => w'.cell? ⟨gA, 0, none⟩ = some (.int .i64 c) ∧ w'.cell? ⟨gA, 1, none⟩ = some (.int .i64 s) ∧ w'.cell? ⟨gA, 2, none⟩ = some (.int .i64 lo) ∧ w'.cell? ⟨gA, 3, none⟩ = some (.int .i64 hi) ∧ w'.cell? ⟨gA, 4, none⟩ = some (.slice x.A x.n x.c) ∧ w'.cell? ⟨gA, 5, none⟩ = some (.slice y.A y.n y.c) ∧ w'.cell? ⟨gA, 6, none⟩ = some (.slice z.A z.n z.c) ∧ w'.cell? ⟨gB, 0, none⟩ = some (.int .i64 c') ∧ w'.cell? ⟨gB, 1, none⟩ = some (.int .i64 s') ∧ w'.cell? ⟨gB, 2, none⟩ = some (.int .i64 lo') ∧ w'.cell? ⟨gB, 3, none⟩ = some (.int .i64 hi') ∧ w'.cell? ⟨gB, 4, none⟩ = some (.slice x'.A x'.n x'.c) ∧ w'.cell? ⟨gB, 5, none⟩ = some (.slice y'.A y'.n y'.c) ∧ w'.cell? ⟨gB, 6, none⟩ = some (.slice z'.A z'.n z'.c)) (first | with_reducible exact LS.out _ X.out Y.out | with_reducible exact KS.out _ _ _ _ _ _ _ | with_reducible exact KT.out _ _ _ _ _ _ _ _ _ _ _ _ _ _) (fail)
  have FF := M6.out.fill (.int .i64 c) (.int .i64 s) (.int .i64 lo) (.int .i64 hi) (.slice x.A x.n x.c) (.slice y.A y.n y.c) (.slice z.A z.n z.c) (.int .i64 c') (.int .i64 s') (.int .i64 lo') (.int .i64 hi') (.slice x'.A x'.n x'.c) (.slice y'.A y'.n y'.c) (.slice z'.A z'.n z'.c)
  have hg3 := hg2.out
  go_wp2
  refine bodyPost_ret (results_cc rfl _ _ w.heap.size (w.heap.size + 1) 26 26 #[.int .i64 c, .int .i64 s, .int .i64 lo, .int .i64 hi, .slice x.A x.n x.c, .slice y.A y.n y.c, .slice z.A z.n z.c] #[.int .i64 c', .int .i64 s', .int .i64 lo', .int .i64 hi', .slice x'.A x'.n x'.c, .slice y'.A y'.n y'.c, .slice z'.A z'.n z'.c] (0, 0) (0, 0) _ _ rfl (FF.1.below (below_drew (Below.refl _ _))) Try.underlying26 rfl (by kernel_rfl) rfl (FF.2.1.below (below_drew (Below.refl _ _))) Try.underlying26 rfl (by kernel_rfl)) rfl ?_
  exact ⟨x, y, z, x', y', z', a, b, a', b', rfl, (S6.out.kp FF.2.2.2 (.inl (by omega))).below (below_drew (Below.refl _ _)), (T6.out.kp FF.2.2.2 (.inl (by omega))).below (below_drew (Below.refl _ _)), by omega, by omega, below_step FF.2.2.1 (below_drew (Below.refl _ _))⟩
set_option maxHeartbeats 8000000 in
set_option maxRecDepth 100000 in
theorem l3two1 (k : Nat) {w : World} {v : Sl} {l L : List Int} {p0 r0 c s lo hi p1 r1 c' s' lo' hi' p2 r2 p3 r3 : Int} {h r h' r' : List Int} {R R' : List (List Int)} {c2 s2 lo2 hi2 : Int} {h2 r2_ : List Int} {R2 : List (List Int)} (u : Bd w v l) (F : Aside0 (TwoF k l L p0 r0 c s lo hi h r R p1 r1 c' s' lo' hi' h' r' R' p2 r2 true p3 r3)) (EC : Aside0 (spec_l3Copy.f k c s lo hi h r R = some (c2, s2, lo2, hi2, h2, r2_, R2))) :
    Calls Try.prog 69 #[.slice v.A v.n v.c] w (TwoOut c s lo hi h r R c2 s2 lo2 hi2 h2 r2_ R2 w) := by
  have M0 := Aside0.mk (two_in w)
  have U := Aside0.mk (u.below M0.out.l)
  clear u
  go_enter Try.func69, Try.ntmps69
  go_wp2_with fail
  refine (new_cu k U.out F.out.N).mono ?_
  rintro e w1 ⟨g, rfl, u1⟩
  clear U
  have M1 := Aside0.mk (M0.out.below u1.b)
  have hg0 := Aside0.mk (Nat.le_trans M0.out.n u1.ge)
  have C1 := Aside0.mk u1
  clear u1 M0
  generalize ((w.alloc (.cells #[.int .i64 0, .int .i64 0, .int .i64 0, .int .i64 0, .slice none 0 0, .slice none 0 0, .slice none 0 0] 26)).alloc (.cells #[.int .i64 0, .int .i64 0, .int .i64 0, .int .i64 0, .slice none 0 0, .slice none 0 0, .slice none 0 0] 26)) = W0 at *
  go_wp2_with fail
  refine (draw_cu k C1.out F.out.D).mono ?_
  rintro e w2 ⟨x, y, z, a, b, rfl, hs, hm, u2, hk⟩
  have hk2 := C1.out.kp u2 hk
  have hl2 := C1.out.lt
  unfold Made at hm
  have hb := below_alloc (Below.refl _ w2) (.cells #[.int .i64 c, .int .i64 s, .int .i64 lo, .int .i64 hi, .slice x.A x.n x.c, .slice y.A y.n y.c, .slice z.A z.n z.c] 26)
  have M3 := Aside0.mk ((M1.out.kp hk2 hg0.out).below hb)
  have S3 := Aside0.mk (hs.below hb)
  have C3 := Aside0.mk (u2.below hb)
  have X3 := Aside0.mk (Bx.new w2 26 #[.int .i64 c, .int .i64 s, .int .i64 lo, .int .i64 hi, .slice x.A x.n x.c, .slice y.A y.n y.c, .slice z.A z.n z.c])
  have N3 := Aside0.mk (show g + 1 ≤ a ∧ a ≤ b ∧ b ≤ w2.heap.size by omega)
  clear hk hs hm u2 hk2 hl2 hb C1 M1
  go_wp2_with fail
  refine (draw_cu k C3.out F.out.E).mono ?_
  rintro e w4 ⟨x', y', z', a', b', rfl, hs, hm, u4, hk⟩
  have hk2 := C3.out.kp u4 hk
  unfold Made at hm
  have hq : (w2.alloc (.cells #[.int .i64 c, .int .i64 s, .int .i64 lo, .int .i64 hi, .slice x.A x.n x.c, .slice y.A y.n y.c, .slice z.A z.n z.c] 26)).heap.size = w2.heap.size + 1 := by simp
  have n3 := N3.out
  have hl2 : w2.heap.size + 1 ≤ a' := by omega
  have hb := below_alloc (Below.refl _ w4) (.cells #[.int .i64 c', .int .i64 s', .int .i64 lo', .int .i64 hi', .slice x'.A x'.n x'.c, .slice y'.A y'.n y'.c, .slice z'.A z'.n z'.c] 26)
  have M5 := Aside0.mk ((M3.out.kp hk2 hg0.out).below hb)
  have S5 := Aside0.mk ((S3.out.kp hk2 (.inl (by omega))).below hb)
  have T5 := Aside0.mk (hs.below hb)
  have C5 := Aside0.mk (u4.below hb)
  have X5 := Aside0.mk ((X3.out.kp hk2 (.inr (by omega))).below hb)
  have Y5 := Aside0.mk (Bx.new w4 26 #[.int .i64 c', .int .i64 s', .int .i64 lo', .int .i64 hi', .slice x'.A x'.n x'.c, .slice y'.A y'.n y'.c, .slice z'.A z'.n z'.c])
  have N5 := Aside0.mk (show g + 1 ≤ a ∧ a ≤ b ∧ b ≤ w2.heap.size ∧ w2.heap.size + 1 ≤ a' ∧ a' ≤ b' ∧ b' ≤ w4.heap.size by omega)
  clear hk hs hm u4 hk2 hl2 hb C3 M3 S3 X3 N3 n3 hq
  go_wp2_with fail
  refine (once_cu C5.out F.out.O).mono ?_
  rintro e w6 ⟨rfl, u6, hk⟩
  have hk2 := C5.out.kp u6 hk
  have n5 := N5.out
  have M := Aside0.mk (M5.out.kp hk2 hg0.out)
  have S := Aside0.mk (S5.out.kp hk2 (.inl (by omega)))
  have T := Aside0.mk (T5.out.kp hk2 (.inl (by omega)))
  have X := Aside0.mk (X5.out.kp hk2 (.inr (by omega)))
  have hg2 := Aside0.mk (show w.heap.size + 2 ≤ a ∧ w.heap.size + 2 ≤ a' ∧ w.heap.size + 2 ≤ w2.heap.size ∧ w.heap.size + 2 ≤ w4.heap.size by have := hg0.out; omega)
  clear hk u6 hk2 n5 C5 M5 S5 T5 X5 Y5
  generalize w2.heap.size = gA at *
  generalize w4.heap.size = gB at *
  have LS := Aside0.mk (show ∀ W' : World, Bx W' gA 26 #[.int .i64 c, .int .i64 s, .int .i64 lo, .int .i64 hi, .slice x.A x.n x.c, .slice y.A y.n y.c, .slice z.A z.n z.c] → (fun w' : World => w'.cell? ⟨gA, 0, none⟩ = some (.int .i64 c) ∧ w'.cell? ⟨gA, 1, none⟩ = some (.int .i64 s) ∧ w'.cell? ⟨gA, 2, none⟩ = some (.int .i64 lo) ∧ w'.cell? ⟨gA, 3, none⟩ = some (.int .i64 hi) ∧ w'.cell? ⟨gA, 4, none⟩ = some (.slice x.A x.n x.c) ∧ w'.cell? ⟨gA, 5, none⟩ = some (.slice y.A y.n y.c) ∧ w'.cell? ⟨gA, 6, none⟩ = some (.slice z.A z.n z.c)) W' from fun W' ba => by
    obtain ⟨x0, x1, x2, x3, x4, x5, x6⟩ := ba.cells
    exact ⟨x0, x1, x2, x3, x4, x5, x6⟩)
  obtain ⟨x0, x1, x2, x3, x4, x5, x6⟩ := X.out.cells
  have hD := below_drew (Below.refl w6.heap.size w6)
  replace M := Aside0.mk (M.out.below hD)
  replace S := Aside0.mk (S.out.below hD)
  replace T := Aside0.mk (T.out.below hD)
  replace X := Aside0.mk (X.out.below hD)
  clear hD
  go_wp2_with fail
  go_region_held3 (fun w' : World => w'.cell? ⟨gA, 0, none⟩ = some (.int .i64 c) ∧ w'.cell? ⟨gA, 1, none⟩ = some (.int .i64 s) ∧ w'.cell? ⟨gA, 2, none⟩ = some (.int .i64 lo) ∧ w'.cell? ⟨gA, 3, none⟩ = some (.int .i64 hi) ∧ w'.cell? ⟨gA, 4, none⟩ = some (.slice x.A x.n x.c) ∧ w'.cell? ⟨gA, 5, none⟩ = some (.slice y.A y.n y.c) ∧ w'.cell? ⟨gA, 6, none⟩ = some (.slice z.A z.n z.c)) (first | with_reducible exact LS.out _ X.out | with_reducible exact KS.out _ _ _ _ _ _ _ | with_reducible exact KT.out _ _ _ _ _ _ _ _ _ _ _ _ _ _) (first | (go_at_call 96; (with_reducible refine (copy_cu k c s lo hi c2 s2 lo2 hi2 h2 r2_ R2 S.out.rd EC.out).mono ?_); rintro e wz ⟨x2, y2, z2, a2, b2, rfl, hs, hm, hb⟩; have E2 := Aside0.mk hs; have N2 := Aside0.mk (And.intro M.out.n hm); replace M := Aside0.mk (M.out.below hb); replace S := Aside0.mk (S.out.below hb); replace X := Aside0.mk (X.out.below hb); clear hs hm hb; obtain ⟨o0, o1, o2, o3, o4, o5, o6⟩ := M.out.o.cells; have fo := M.out.o.fz; obtain ⟨p0, p1, p2, p3, p4, p5, p6⟩ := M.out.p.cells; have fp := M.out.p.fz; have hne1 : w.heap.size ≠ w.heap.size + 1 := (by omega); have KS := Aside0.mk (fun (u0_ u1_ u2_ u3_ u4_ u5_ u6_ : Value) => LS.out _ (X.out.kp (M.out.o.fill u0_ u1_ u2_ u3_ u4_ u5_ u6_).2 (.inr (by have := hg2.out; omega)))); have KT := Aside0.mk (fun (u0_ u1_ u2_ u3_ u4_ u5_ u6_ q0_ q1_ q2_ q3_ q4_ q5_ q6_ : Value) => LS.out _ ((X.out.kp (M.out.o.fill u0_ u1_ u2_ u3_ u4_ u5_ u6_).2 (.inr (by have := hg2.out; omega))).kp (((M.out.p.kp (M.out.o.fill u0_ u1_ u2_ u3_ u4_ u5_ u6_).2 (.inr (by omega))).fill q0_ q1_ q2_ q3_ q4_ q5_ q6_).2) (.inr (by have := hg2.out; omega))))))
  all_goals
    have FF := M.out.fill (.int .i64 c) (.int .i64 s) (.int .i64 lo) (.int .i64 hi) (.slice x.A x.n x.c) (.slice y.A y.n y.c) (.slice z.A z.n z.c) (.int .i64 c2) (.int .i64 s2) (.int .i64 lo2) (.int .i64 hi2) (.slice x2.A x2.n x2.c) (.slice y2.A y2.n y2.c) (.slice z2.A z2.n z2.c)
    have hg3 := hg2.out
    go_wp2
    refine bodyPost_ret (results_cc rfl _ _ w.heap.size (w.heap.size + 1) 26 26 #[.int .i64 c, .int .i64 s, .int .i64 lo, .int .i64 hi, .slice x.A x.n x.c, .slice y.A y.n y.c, .slice z.A z.n z.c] #[.int .i64 c2, .int .i64 s2, .int .i64 lo2, .int .i64 hi2, .slice x2.A x2.n x2.c, .slice y2.A y2.n y2.c, .slice z2.A z2.n z2.c] (0, 0) (0, 0) _ _ rfl FF.1 Try.underlying26 rfl (by kernel_rfl) rfl FF.2.1 Try.underlying26 rfl (by kernel_rfl)) rfl ?_
    have n2 := N2.out; unfold Made at n2
    have m2 := M.out.n
    exact ⟨x, y, z, x2, y2, z2, a, b, a2, b2, rfl, S.out.kp FF.2.2.2 (.inl (by omega)), E2.out.kp FF.2.2.2 (.inl (by omega)), by omega, by omega, FF.2.2.1⟩
set_option maxHeartbeats 8000000 in
set_option maxRecDepth 100000 in
theorem dm_walk {w : World} {v : Sl} {l : List Int} {c s lo hi c' s' lo' hi' : Int} {h r h' r' : List Int} {R R' : List (List Int)} (u : Bd w v l) (H : Aside0 (∀ W : World, Bd W v l → Calls Try.prog 69 #[.slice v.A v.n v.c] W (TwoOut c s lo hi h r R c' s' lo' hi' h' r' R' W))) :
    Calls Try.prog 31 #[.slice v.A v.n v.c] w (TwoOut c s lo hi h r R c' s' lo' hi' h' r' R' w) := by
  have M0 := Aside0.mk (two_in w)
  have U := Aside0.mk (u.below M0.out.l)
  clear u
  go_enter Try.func31, Try.ntmps31
  go_wp2_with fail
  refine (H.out _ U.out).mono ?_
  rintro e w1 ⟨x, y, z, x', y', z', a, b, a', b', rfl, hs, hs', ha, ha', hb⟩
  clear U
  have na := Nat.le_trans M0.out.n ha
  have na' := Nat.le_trans M0.out.n ha'
  have M := Aside0.mk (M0.out.below hb)
  have NA := Aside0.mk (And.intro na na')
  have S := Aside0.mk hs
  have T := Aside0.mk hs'
  clear hs hs' ha ha' hb M0 na na'
  obtain ⟨o0, o1, o2, o3, o4, o5, o6⟩ := M.out.o.cells
  have fo := M.out.o.fz
  obtain ⟨p0, p1, p2, p3, p4, p5, p6⟩ := M.out.p.cells
  have fp := M.out.p.fz
  have hne1 : w.heap.size ≠ w.heap.size + 1 := (by omega)
  go_wp2
  have FF := M.out.fill (.int .i64 c) (.int .i64 s) (.int .i64 lo) (.int .i64 hi) (.slice x.A x.n x.c) (.slice y.A y.n y.c) (.slice z.A z.n z.c) (.int .i64 c') (.int .i64 s') (.int .i64 lo') (.int .i64 hi') (.slice x'.A x'.n x'.c) (.slice y'.A y'.n y'.c) (.slice z'.A z'.n z'.c)
  have hg3 := NA.out
  refine bodyPost_ret (results_cc rfl _ _ w.heap.size (w.heap.size + 1) 26 26 #[.int .i64 c, .int .i64 s, .int .i64 lo, .int .i64 hi, .slice x.A x.n x.c, .slice y.A y.n y.c, .slice z.A z.n z.c] #[.int .i64 c', .int .i64 s', .int .i64 lo', .int .i64 hi', .slice x'.A x'.n x'.c, .slice y'.A y'.n y'.c, .slice z'.A z'.n z'.c] (0, 0) (0, 0) _ _ rfl FF.1 Try.underlying26 rfl (by kernel_rfl) rfl FF.2.1 Try.underlying26 rfl (by kernel_rfl)) rfl ?_
  exact ⟨x, y, z, x', y', z', a, b, a', b', rfl, S.out.kp FF.2.2.2 (.inl (by omega)), T.out.kp FF.2.2.2 (.inl (by omega)), by omega, by omega, FF.2.2.1⟩
def spec_l3Two.f (k : Nat) (l0 : List Int) : Option (Int × Int × Int × Int × List Int × List Int × (List (List Int)) × Int × Int × Int × Int × List Int × List Int × (List (List Int))) := (spec_l1New.f k l0).bind fun bt383 => ((spec_l3Draw.f k bt383.1 bt383.2.1 bt383.2.2).bind fun bt387 => ((spec_l3Draw.f k bt383.1 bt387.2.2.2.2.2.2.2.1 bt387.2.2.2.2.2.2.2.2).bind fun bt403 => ((spec_l1Once.f bt383.1 bt403.2.2.2.2.2.2.2.1 bt403.2.2.2.2.2.2.2.2 4).bind fun bt419 => (if bt419.1 = true then ((spec_l3Copy.f k bt387.1 bt387.2.1 bt387.2.2.1 bt387.2.2.2.1 bt387.2.2.2.2.1 bt387.2.2.2.2.2.1 bt387.2.2.2.2.2.2.1).bind fun bt422 => (some (bt387.1, bt387.2.1, bt387.2.2.1, bt387.2.2.2.1, bt387.2.2.2.2.1, bt387.2.2.2.2.2.1, bt387.2.2.2.2.2.2.1, bt422.1, bt422.2.1, bt422.2.2.1, bt422.2.2.2.1, bt422.2.2.2.2.1, bt422.2.2.2.2.2.1, bt422.2.2.2.2.2.2))) else (some (bt387.1, bt387.2.1, bt387.2.2.1, bt387.2.2.2.1, bt387.2.2.2.2.1, bt387.2.2.2.2.2.1, bt387.2.2.2.2.2.2.1, bt403.1, bt403.2.1, bt403.2.2.1, bt403.2.2.2.1, bt403.2.2.2.2.1, bt403.2.2.2.2.2.1, bt403.2.2.2.2.2.2.1))))))
theorem spec_l3Two.mono : ∀ a0 k, LeO (spec_l3Two.f k a0) (spec_l3Two.f (k + 1) a0) := by
 intro a0 k
 unfold spec_l3Two.f
 repeat' first
   | (with_reducible exact spec_l1New.mono _ _)
   | (with_reducible exact spec_l3Copy.mono _ _ _ _ _ _ _ _)
   | (with_reducible exact spec_l3Draw.mono _ _ _ _)
   | (with_reducible exact LeO.refl _)
   | (with_reducible exact LeO.none _)
   | (with_reducible refine LeO.ite ?_ ?_)
   | (with_reducible refine LeO.bind ?_ (fun _ => ?_))
   | exact spec_l1New.mono _ _
   | exact spec_l3Copy.mono _ _ _ _ _ _ _ _
   | exact spec_l3Draw.mono _ _ _ _
   | exact LeO.none _
   | refine LeO.ite ?_ ?_
   | refine LeO.bind ?_ (fun _ => ?_)
def spec_DrawMerge.f (k : Nat) (l0 : List Int) : Option (Int × Int × Int × Int × List Int × List Int × (List (List Int)) × Int × Int × Int × Int × List Int × List Int × (List (List Int))) := (spec_l3Two.f k l0).bind fun bt437 => (some (bt437.1, bt437.2.1, bt437.2.2.1, bt437.2.2.2.1, bt437.2.2.2.2.1, bt437.2.2.2.2.2.1, bt437.2.2.2.2.2.2.1, bt437.2.2.2.2.2.2.2.1, bt437.2.2.2.2.2.2.2.2.1, bt437.2.2.2.2.2.2.2.2.2.1, bt437.2.2.2.2.2.2.2.2.2.2.1, bt437.2.2.2.2.2.2.2.2.2.2.2.1, bt437.2.2.2.2.2.2.2.2.2.2.2.2.1, bt437.2.2.2.2.2.2.2.2.2.2.2.2.2))
theorem spec_DrawMerge.mono : ∀ a0 k, LeO (spec_DrawMerge.f k a0) (spec_DrawMerge.f (k + 1) a0) := by
 intro a0 k
 unfold spec_DrawMerge.f
 repeat' first
   | (with_reducible exact spec_l3Two.mono _ _)
   | (with_reducible exact LeO.refl _)
   | (with_reducible exact LeO.none _)
   | (with_reducible refine LeO.ite ?_ ?_)
   | (with_reducible refine LeO.bind ?_ (fun _ => ?_))
   | exact spec_l3Two.mono _ _
   | exact LeO.none _
   | refine LeO.ite ?_ ?_
   | refine LeO.bind ?_ (fun _ => ?_)
theorem TwoOut.rd {c s lo hi : Int} {h r : List Int} {R : List (List Int)} {c' s' lo' hi' : Int} {h' r' : List Int} {R' : List (List Int)} {w w' : World} {e : Ending} (H : TwoOut c s lo hi h r R c' s' lo' hi' h' r' R' w e w') : ∃ (x y z x' y' z' : Sl), e = .returned (.tuple #[.agg #[.int .i64 c, .int .i64 s, .int .i64 lo, .int .i64 hi, .slice x.A x.n x.c, .slice y.A y.n y.c, .slice z.A z.n z.c], .agg #[.int .i64 c', .int .i64 s', .int .i64 lo', .int .i64 hi', .slice x'.A x'.n x'.c, .slice y'.A y'.n y'.c, .slice z'.A z'.n z'.c]]) ∧ Rd w' x y z h r R ∧ Rd w' x' y' z' h' r' R' ∧ Below w.heap.size w w' := by
  obtain ⟨x, y, z, x', y', z', a, b, a', b', he, h1, h2, _, _, hb⟩ := H
  exact ⟨x, y, z, x', y', z', he, h1.rd, h2.rd, hb⟩
theorem draw_callD (k : Nat) {w : World} {v : Sl} {l : List Int} (c s lo hi c' s' lo' hi' : Int) (h r h' r' : List Int) (R R' : List (List Int)) (u : Bd w v l) (he : spec_DrawMerge.f k l = some (c, s, lo, hi, h, r, R, c', s', lo', hi', h', r', R')) :
    Calls Try.prog 31 #[.slice v.A v.n v.c] w fun e w' => ∃ (x y z x' y' z' : Sl), e = .returned (.tuple #[.agg #[.int .i64 c, .int .i64 s, .int .i64 lo, .int .i64 hi, .slice x.A x.n x.c, .slice y.A y.n y.c, .slice z.A z.n z.c], .agg #[.int .i64 c', .int .i64 s', .int .i64 lo', .int .i64 hi', .slice x'.A x'.n x'.c, .slice y'.A y'.n y'.c, .slice z'.A z'.n z'.c]]) ∧ Rd w' x y z h r R ∧ Rd w' x' y' z' h' r' R' ∧ Below w.heap.size w w' := by
  unfold spec_DrawMerge.f at he
  replace he := Option.bind_eq_some_iff.mp he
  obtain ⟨⟨t0, t1, t2, t3, t4, t5, t6, t7, t8, t9, t10, t11, t12, t13⟩, he, h0⟩ := he
  simp only [Option.some.injEq, Prod.mk.injEq] at h0
  obtain ⟨rfl, rfl, rfl, rfl, rfl, rfl, rfl, rfl, rfl, rfl, rfl, rfl, rfl, rfl⟩ := h0
  unfold spec_l3Two.f at he
  replace he := Option.bind_eq_some_iff.mp he
  obtain ⟨⟨L, p0, q0⟩, hN, he⟩ := he
  replace he := Option.bind_eq_some_iff.mp he
  obtain ⟨⟨d0, d1, d2, d3, d4, d5, d6, p1, q1⟩, hD, he⟩ := he
  replace he := Option.bind_eq_some_iff.mp he
  obtain ⟨⟨e0, e1, e2, e3, e4, e5, e6, p2, q2⟩, hE, he⟩ := he
  replace he := Option.bind_eq_some_iff.mp he
  obtain ⟨⟨t, p3, q3⟩, hO, he⟩ := he
  dsimp only at hD hE hO he
  cases t
  · rw [if_neg (by decide)] at he
    simp only [Option.some.injEq, Prod.mk.injEq] at he
    obtain ⟨rfl, rfl, rfl, rfl, rfl, rfl, rfl, rfl, rfl, rfl, rfl, rfl, rfl, rfl⟩ := he
    exact (dm_walk u ⟨fun W uW => l3two0 k uW ⟨⟨hN, hD, hE, hO⟩⟩⟩).mono (fun _ _ H => H.rd)
  · rw [if_pos rfl] at he
    replace he := Option.bind_eq_some_iff.mp he
    obtain ⟨⟨g0, g1, g2, g3, g4, g5, g6⟩, hC, he⟩ := he
    simp only [Option.some.injEq, Prod.mk.injEq] at he
    obtain ⟨rfl, rfl, rfl, rfl, rfl, rfl, rfl, rfl, rfl, rfl, rfl, rfl, rfl, rfl⟩ := he
    exact (dm_walk u ⟨fun W uW => l3two1 k uW ⟨⟨hN, hD, hE, hO⟩⟩ ⟨hC⟩⟩).mono (fun _ _ H => H.rd)
theorem rdR_get {xs : List (List Int)} {n : Nat} (h : n < xs.length) : rd_L1 xs (n : Int) = xs[n] := by
  unfold rd_L1
  rw [Int.toNat_natCast, List.getD_eq_getElem?_getD, List.getElem?_eq_getElem h]
  rfl
theorem and255 (x : Int) : 0 ≤ Go.bits .and .i64 x 255 ∧ Go.bits .and .i64 x 255 ≤ 255 := by
  have h : (BitVec.ofInt 64 x).toNat &&& 255 ≤ 255 := Nat.and_le_right
  have e : Go.bits .and .i64 x 255 = (((BitVec.ofInt 64 x).toNat &&& 255 : Nat) : Int) :=
    wraps_i64 _ (Int.natCast_nonneg _) (Int.lt_of_le_of_lt (Int.ofNat_le.mpr h) (by decide))
  rw [e]
  omega
theorem l1Byte_is (l : List Int) (hl : l.length ≤ 281474976702464) (p : Nat) (hp : p ≤ l.length) (r : Int) : ∃ (v q : Nat) (s : Int), spec_l1Byte.f l p r = some ((v : Int), (q : Int), s) ∧ v ≤ 255 ∧ q ≤ l.length := by
  unfold spec_l1Byte.f
  by_cases h : (p : Int) < (l.length : Int)
  · rw [if_pos h, if_pos (by omega)]
    obtain ⟨h0, h1⟩ := and255 (wrap64 ((Go.bits .and .i64 (Go.bits .xor .i64 ((wrap64 ((wrap64 (r * 6364136223846793005)) + 1442695040888963407)) / 8589934592) ((wrap64 ((wrap64 (r * 6364136223846793005)) + 1442695040888963407)) / 35184372088832)) 255) + (wrap64 (rd l p))))
    obtain ⟨v, hv⟩ := Int.eq_ofNat_of_zero_le h0
    rw [hv] at h1 ⊢
    exact ⟨v, p + 1, _, by rw [wsucc (by omega)], by omega, by omega⟩
  · rw [if_neg h]
    obtain ⟨h0, h1⟩ := and255 (Go.bits .xor .i64 ((wrap64 ((wrap64 (r * 6364136223846793005)) + 1442695040888963407)) / 8589934592) ((wrap64 ((wrap64 (r * 6364136223846793005)) + 1442695040888963407)) / 35184372088832))
    obtain ⟨v, hv⟩ := Int.eq_ofNat_of_zero_le h0
    rw [hv] at h1 ⊢
    exact ⟨v, p, _, rfl, by omega, hp⟩
theorem l1Below_is (l : List Int) (hl : l.length ≤ 281474976702464) (p : Nat) (hp : p ≤ l.length) (r : Int) (n : Nat) (h0 : 0 < n) (h1 : n ≤ 256) :
    ∃ (v q : Nat) (s : Int), spec_l1Below.f l p r (n : Int) = some ((v : Int), (q : Int), s) ∧ v < n ∧ q ≤ l.length := by
  obtain ⟨v, q, s, e, hv, hq⟩ := l1Byte_is l hl p hp r
  refine ⟨v % n, q, s, ?_, Nat.mod_lt _ h0, hq⟩
  unfold spec_l1Below.f
  rw [if_neg (by omega), if_pos (by omega), e]
  simp only [Option.bind_some]
  rw [if_neg (by omega), Int.tmod_eq_emod_of_nonneg (by omega)]
  rfl
theorem l1New_at (l : List Int) (d : Nat) : ∀ (i : Nat) (x : Int), i + d = l.length → ∃ s, Ev (fun k => spec_l1New.l0 k l x (i : Int)) (l, 0, s) := by
  induction d with
  | zero =>
    intro i x hi
    refine ⟨x, Ev.step (fun _ => rfl) ?_⟩
    simp only [spec_l1New.l0]
    exact ev_neg (by omega) (ev_some rfl)
  | succ d ih =>
    intro i x hi
    by_cases h4 : i < 4000
    · obtain ⟨s, hs⟩ := ih (i + 1) (Go.bits .and .i64 (wrap64 ((wrap64 ((wrap64 (x * 131)) + (wrap64 (rd l i)))) + 7)) 1073741823) (by omega)
      refine ⟨s, Ev.step (fun _ => rfl) ?_⟩
      simp only [spec_l1New.l0]
      refine ev_pos (by omega) (ev_pos (by omega) (ev_pos (by omega) ?_))
      rw [wsucc (by omega)]
      exact hs
    · refine ⟨x, Ev.step (fun _ => rfl) ?_⟩
      simp only [spec_l1New.l0]
      exact ev_pos (by omega) (ev_neg (by omega) (ev_some rfl))
theorem l1New_ev (l : List Int) : ∃ s, Ev (fun k => spec_l1New.f k l) (l, 0, s) := l1New_at l l.length 0 _ (by omega)
theorem within_is (a b c : Int) : impl_within.f a b c = some (decide (b ≤ a ∧ a ≤ c)) := in_is a b c
theorem l1In_is (a b c : Int) : spec_l1In.f a b c = some (decide (b ≤ a ∧ a ≤ c)) := in_is a b c
def LiOk (xs : List Int) (n : Nat) (most : Int) (zero : Prop) : Prop := xs.length = n ∧ ∀ x ∈ xs, (0 ≤ x ∧ x ≤ most) ∧ (zero → x = 0)
def SkOk (c s mn mx : Int) (h r : List Int) (R : List (List Int)) : Prop :=
  (0 ≤ c ∧ c ≤ 1000000000) ∧ (0 ≤ s ∧ s ≤ 1000000000) ∧ (0 ≤ mn ∧ mn ≤ 1000000) ∧ (0 ≤ mx ∧ mx ≤ 1000000) ∧ mn ≤ mx ∧ R.length = 2 ∧ (c = 0 → s = 0 ∧ mx = 0) ∧
  LiOk h 8 1000000000 (c = 0) ∧ LiOk r 8 17 (c = 0) ∧ LiOk (rd_L1 R 0) 4 1000000000 (c = 0) ∧ LiOk (rd_L1 R 1) 4 1000000000 (c = 0)
noncomputable def skOk (c s mn mx : Int) (h r : List Int) (R : List (List Int)) : Bool := @decide (SkOk c s mn mx h r R) (Classical.propDecidable _)
theorem skOk_true {c s mn mx : Int} {h r : List Int} {R : List (List Int)} : skOk c s mn mx h r R = true ↔ SkOk c s mn mx h r R := by
  unfold skOk
  exact @decide_eq_true_iff _ (Classical.propDecidable _)
theorem skOk_false {c s mn mx : Int} {h r : List Int} {R : List (List Int)} (hn : ¬ SkOk c s mn mx h r R) : skOk c s mn mx h r R = false := by
  cases e : skOk c s mn mx h r R with
  | false => rfl
  | true => exact absurd (skOk_true.1 e) hn
theorem l3List_at (xs : List Int) (n : Nat) (most : Int) (z : Bool) (hn : n ≤ 8) (hl : xs.length = n) (r : Bool) (d : Nat) : ∀ i : Nat, i + d = n →
    ((∀ x ∈ xs.drop i, (0 ≤ x ∧ x ≤ most) ∧ (z = true → x = 0)) → r = true) → (¬ (∀ x ∈ xs.drop i, (0 ≤ x ∧ x ≤ most) ∧ (z = true → x = 0)) → r = false) →
    Ev (fun k => spec_l3List.l0 k xs (n : Int) most z (i : Int)) r := by
  induction d with
  | zero =>
    intro i hi h1 _
    refine Ev.step (fun _ => rfl) ?_
    simp only [spec_l3List.l0]
    refine ev_neg (by omega) (ev_some ?_)
    rw [h1]
    intro x hx
    rw [List.drop_of_length_le (by omega)] at hx
    cases hx
  | succ d ih =>
    intro i hi h1 h2
    have hg : i < xs.length := by omega
    rw [List.drop_eq_getElem_cons hg] at h1 h2
    refine Ev.step (fun _ => rfl) ?_
    simp only [spec_l3List.l0]
    rw [wsucc (by omega), rd_get hg]
    refine ev_pos (by omega) (ev_pos (by omega) (ev_pos (by omega) (ev_bind0 (l1In_is _ _ _) ?_)))
    by_cases c : 0 ≤ xs[i] ∧ xs[i] ≤ most
    · refine ev_pos (decide_eq_true c) ?_
      have hrec : (z = true → xs[i] = 0) → Ev (fun k => spec_l3List.l0 k xs (n : Int) most z ((i + 1 : Nat) : Int)) r := by
        intro hz
        refine ih (i + 1) (by omega) (fun h => h1 fun x hx => ?_) (fun h => h2 fun g => h fun x hx => g x (List.mem_cons_of_mem _ hx))
        rcases List.mem_cons.1 hx with rfl | hx
        · exact ⟨c, hz⟩
        · exact h x hx
      by_cases hz : z = true
      · refine ev_pos hz ?_
        by_cases h0 : xs[i] = 0
        · exact ev_pos h0 (hrec fun _ => h0)
        · refine ev_neg h0 (ev_some ?_)
          exact (h2 fun g => h0 ((g _ List.mem_cons_self).2 hz)).symm
      · exact ev_neg hz (hrec fun h => absurd h hz)
    · refine ev_neg (by rw [decide_eq_false c]; exact Bool.false_ne_true) (ev_some ?_)
      exact (h2 fun g => c (g _ List.mem_cons_self).1).symm
theorem l3List_ev (xs : List Int) (n : Nat) (most : Int) (z : Bool) (hn : n ≤ 8) (r : Bool) (h1 : LiOk xs n most (z = true) → r = true) (h2 : ¬ LiOk xs n most (z = true) → r = false) : Ev (fun k => spec_l3List.f k xs (n : Int) most z) r := by
  unfold spec_l3List.f
  by_cases hl : xs.length = n
  · exact ev_pos (by omega) (l3List_at xs n most z hn hl r n 0 (by omega) (fun h => h1 ⟨hl, h⟩) (fun h => h2 fun g => h g.2))
  · exact ev_neg (by omega) (ev_some (h2 fun g => hl g.1).symm)
theorem l3List_dec (xs : List Int) (n : Nat) (most : Int) (z : Bool) (hn : n ≤ 8) (Z : Prop) (hz : (z = true) = Z) : Ev (fun k => spec_l3List.f k xs (n : Int) most z) (@decide (LiOk xs n most Z) (Classical.propDecidable _)) := by
  subst hz
  exact l3List_ev xs n most z hn _ (fun h => @decide_eq_true _ (Classical.propDecidable _) h) (fun h => @decide_eq_false _ (Classical.propDecidable _) h)
theorem spec_sketchOk_j1 (c s mn mx : Int) (h r : List Int) (R : List (List Int)) (hR : R.length = 2) (f : Bool) (v : Bool)
    (hv : f = false → LiOk h 8 1000000000 (c = 0) → LiOk r 8 17 (c = 0) → LiOk (rd_L1 R 0) 4 1000000000 (c = 0) → LiOk (rd_L1 R 1) 4 1000000000 (c = 0) → v = true)
    (hn : ¬ (f = false ∧ LiOk h 8 1000000000 (c = 0) ∧ LiOk r 8 17 (c = 0) ∧ LiOk (rd_L1 R 0) 4 1000000000 (c = 0) ∧ LiOk (rd_L1 R 1) 4 1000000000 (c = 0)) → v = false) :
    Ev (fun k => spec_SketchOk.j1 k (c == 0) f c s mn mx h r R) v := by
  have ez : ((c == 0) = true) = (c = 0) := by simp
  refine Ev.step (fun _ => rfl) ?_
  simp only [spec_SketchOk.j1]
  refine ev_if (fun hf => ev_some (hn fun g => by rw [hf] at g; exact absurd g.1 (by simp)).symm) (fun hf => ?_)
  have hf' : f = false := by simpa using hf
  have L := fun xs n most hn => l3List_dec xs n most (c == 0) hn (c = 0) ez
  refine Ev.bind (L h 8 1000000000 (by omega)) ?_
  refine ev_if (fun g1 => ?_) (fun g1 => ev_some (hn fun g => g1 (@decide_eq_true _ (Classical.propDecidable _) g.2.1)).symm)
  refine Ev.bind (L r 8 17 (by omega)) ?_
  refine ev_if (fun g2 => ?_) (fun g2 => ev_some (hn fun g => g2 (@decide_eq_true _ (Classical.propDecidable _) g.2.2.1)).symm)
  refine ev_pos (by omega) (Ev.bind (L (rd_L1 R 0) 4 1000000000 (by omega)) ?_)
  refine ev_if (fun g3 => ?_) (fun g3 => ev_some (hn fun g => g3 (@decide_eq_true _ (Classical.propDecidable _) g.2.2.2.1)).symm)
  refine ev_pos (by omega) (Ev.bind (L (rd_L1 R 1) 4 1000000000 (by omega)) (ev_some ?_))
  have t1 := @of_decide_eq_true _ (Classical.propDecidable _) g1
  have t2 := @of_decide_eq_true _ (Classical.propDecidable _) g2
  have t3 := @of_decide_eq_true _ (Classical.propDecidable _) g3
  by_cases t4 : LiOk (rd_L1 R 1) 4 1000000000 (c = 0)
  · rw [hv hf' t1 t2 t3 t4]
    exact @decide_eq_true _ (Classical.propDecidable _) t4
  · rw [hn fun g => t4 g.2.2.2.2]
    exact @decide_eq_false _ (Classical.propDecidable _) t4
theorem spec_sketchOk_ev (c s mn mx : Int) (h r : List Int) (R : List (List Int)) : Ev (fun k => spec_SketchOk.f k c s mn mx h r R) (skOk c s mn mx h r R) := by
  have bad : ¬ SkOk c s mn mx h r R → Ev (fun k => spec_SketchOk.j0 k true c s mn mx h r R) (skOk c s mn mx h r R) := by
    intro hb
    refine Ev.step (fun _ => rfl) ?_
    simp only [spec_SketchOk.j0]
    exact ev_pos (by trivial) (ev_some (skOk_false hb).symm)
  unfold spec_SketchOk.f
  refine ev_bind0 (l1In_is _ _ _) ?_
  by_cases a1 : 0 ≤ c ∧ c ≤ 1000000000
  case neg => exact ev_neg (by rw [decide_eq_false a1]; exact Bool.false_ne_true) (bad fun g => a1 g.1)
  refine ev_pos (decide_eq_true a1) (ev_bind0 (l1In_is _ _ _) ?_)
  by_cases a2 : 0 ≤ s ∧ s ≤ 1000000000
  case neg => exact ev_neg (by rw [decide_eq_false a2]; exact Bool.false_ne_true) (bad fun g => a2 g.2.1)
  refine ev_pos (decide_eq_true a2) (ev_bind0 (l1In_is _ _ _) ?_)
  by_cases a3 : 0 ≤ mn ∧ mn ≤ 1000000
  case neg => exact ev_neg (by rw [decide_eq_false a3]; exact Bool.false_ne_true) (bad fun g => a3 g.2.2.1)
  refine ev_pos (decide_eq_true a3) (ev_bind0 (l1In_is _ _ _) ?_)
  by_cases a4 : 0 ≤ mx ∧ mx ≤ 1000000
  case neg => exact ev_neg (by rw [decide_eq_false a4]; exact Bool.false_ne_true) (bad fun g => a4 g.2.2.2.1)
  refine ev_pos (decide_eq_true a4) ?_
  by_cases a5 : mn ≤ mx
  case neg => exact ev_pos (by omega) (bad fun g => a5 g.2.2.2.2.1)
  refine ev_neg (by omega) ?_
  by_cases a6 : R.length = 2
  case neg =>
    have e : ((R.length : Int) != 2) = true := by simp; omega
    rw [e]
    exact bad fun g => a6 g.2.2.2.2.2.1
  have e : ((R.length : Int) != 2) = false := by simp; omega
  rw [e]
  refine Ev.step (fun _ => rfl) ?_
  simp only [spec_SketchOk.j0]
  refine ev_neg (by simp) ?_
  have fin : ∀ f : Bool, (f = false ↔ (c = 0 → s = 0 ∧ mx = 0)) → Ev (fun k => spec_SketchOk.j1 k (c == 0) f c s mn mx h r R) (skOk c s mn mx h r R) := by
    intro f hf
    refine spec_sketchOk_j1 c s mn mx h r R a6 f _ (fun g1 g2 g3 g4 g5 => skOk_true.2 ⟨a1, a2, a3, a4, a5, a6, hf.1 g1, g2, g3, g4, g5⟩) (fun g => skOk_false fun q => g ⟨hf.2 q.2.2.2.2.2.2.1, q.2.2.2.2.2.2.2⟩)
  refine ev_if (fun z => ?_) (fun z => fin false ⟨fun _ h => absurd h z, fun _ => rfl⟩)
  refine ev_if (fun z2 => fin _ ?_) (fun z2 => fin true ⟨fun h => by simp at h, fun h => absurd (h z).1 z2⟩)
  constructor
  · intro h _
    exact ⟨z2, by simpa using h⟩
  · intro h
    simpa using (h z).2
theorem sum_bd (ys : List Int) (h : ∀ x ∈ ys, 0 ≤ x ∧ x ≤ 1000000000) : 0 ≤ ys.sum ∧ ys.sum ≤ ys.length * 1000000000 := by
  induction ys with
  | nil => simp
  | cons y ys ih =>
    have h1 := h y List.mem_cons_self
    have h2 := ih fun x hx => h x (List.mem_cons_of_mem _ hx)
    rw [List.sum_cons, List.length_cons]
    omega
theorem sum_zero (ys : List Int) (h : ∀ x ∈ ys, 0 ≤ x ∧ x ≤ 1000000000) (h0 : ys.sum = 0) : ∀ x ∈ ys, x = 0 := by
  induction ys with
  | nil => exact fun x hx => by cases hx
  | cons y ys ih =>
    intro x hx
    have h1 := h y List.mem_cons_self
    have h2 := sum_bd ys fun x hx => h x (List.mem_cons_of_mem _ hx)
    rw [List.sum_cons] at h0
    rcases List.mem_cons.1 hx with rfl | hx
    · omega
    · exact ih (fun x hx => h x (List.mem_cons_of_mem _ hx)) (by omega) x hx
theorem zero_sum (ys : List Int) (h : ∀ x ∈ ys, x = 0) : ys.sum = 0 := by
  induction ys with
  | nil => rfl
  | cons y ys ih =>
    rw [List.sum_cons, h y List.mem_cons_self, ih fun x hx => h x (List.mem_cons_of_mem _ hx)]
    rfl
theorem copyInts_is (xs : List Int) (h : xs.length ≤ 1048576) : impl_copyInts.f xs = some xs := by
  unfold impl_copyInts.f
  rw [if_pos (by simp; omega)]
  rfl
theorem counts_ev (c s mn mx : Int) (h r A B : List Int) (hh : h.length ≤ 8) (hr : r.length ≤ 8) (hA : A.length ≤ 8) (hB : B.length ≤ 8) :
    Ev (fun k => impl_counts.f k c s mn mx h r [A, B]) (((h ++ r) ++ A) ++ B) := by
  unfold impl_counts.f
  refine ev_bind0 (copyInts_is h (by omega)) (ev_pos (by omega) ?_)
  refine Ev.step (fun _ => rfl) ?_
  simp only [impl_counts.l0]
  refine ev_pos (by simp) (ev_pos (by simp) (ev_pos (by simp) ?_))
  have e0 : rd_L1 [A, B] 0 = A := rfl
  have w1 : wrap64 (0 + 1) = 1 := by unfold wrap64; omega
  have w2 : wrap64 (1 + 1) = 2 := by unfold wrap64; omega
  have e1 : rd_L1 [A, B] (wrap64 (0 + 1)) = B := by rw [w1]; rfl
  refine ev_pos (by rw [e0]; simp; omega) ?_
  refine Ev.step (fun _ => rfl) ?_
  simp only [impl_counts.l0]
  refine ev_pos (by rw [w1]; simp) (ev_pos (by rw [w1]; omega) (ev_pos (by rw [w1]; simp) ?_))
  refine ev_pos (by rw [e0, e1]; simp; omega) ?_
  refine Ev.step (fun _ => rfl) ?_
  simp only [impl_counts.l0]
  exact ev_neg (by rw [w1, w2]; simp) (ev_some (by rw [e0, e1]))
theorem impl_sketchOk_l1 (c s mn mx : Int) (h r : List Int) (R : List (List Int)) (v : Bool) (t : Int) (hr : r.length ≤ 8) (d : Nat) : ∀ i : Nat, i + d = r.length →
    ((∀ x ∈ r.drop i, x ≤ 17) → v = if c = 0 then (t == 0) else decide (mn ≤ mx ∧ mx ≤ 1000000)) → (¬ (∀ x ∈ r.drop i, x ≤ 17) → v = false) →
    Ev (fun k => impl_SketchOk.l1 k t r (r.length : Int) (i : Int) c s mn mx h r R) v := by
  induction d with
  | zero =>
    intro i hi h1 _
    refine Ev.step (fun _ => rfl) ?_
    simp only [impl_SketchOk.l1]
    refine ev_neg (by omega) ?_
    rw [h1 (fun x hx => by rw [List.drop_of_length_le (by omega)] at hx; cases hx)]
    by_cases hc : c = 0
    · exact ev_pos hc (ev_some (by rw [if_pos hc]))
    · refine ev_neg hc (ev_if (fun g => ev_some ?_) (fun g => ev_some (by rw [if_neg hc]; exact (decide_eq_false fun q => g q.1).symm)))
      rw [if_neg hc]
      exact decide_eq_decide.mpr ⟨fun x => ⟨g, x⟩, fun x => x.2⟩
  | succ d ih =>
    intro i hi h1 h2
    have hg : i < r.length := by omega
    rw [List.drop_eq_getElem_cons hg] at h1 h2
    refine Ev.step (fun _ => rfl) ?_
    simp only [impl_SketchOk.l1]
    rw [wsucc (by omega), rd_get hg]
    refine ev_pos (by omega) (ev_pos (by omega) (ev_pos (by omega) ?_))
    by_cases g : r[i] > 17
    · exact ev_pos g (ev_some (h2 fun q => by have := q _ List.mem_cons_self; omega).symm)
    · refine ev_neg g (ih (i + 1) (by omega) (fun q => h1 fun x hx => ?_) (fun q => h2 fun p => q fun x hx => p x (List.mem_cons_of_mem _ hx)))
      rcases List.mem_cons.1 hx with rfl | hx
      · omega
      · exact q x hx
theorem impl_sketchOk_l0 (c s mn mx : Int) (h r : List Int) (R : List (List Int)) (v : Bool) (ys : List Int) (hy : ys.length ≤ 100) (d : Nat) : ∀ (i : Nat) (t : Int), i + d = ys.length → 0 ≤ t → t ≤ (i : Int) * 1000000000 →
    ((∀ x ∈ ys.drop i, 0 ≤ x ∧ x ≤ 1000000000) → Ev (fun k => impl_SketchOk.l1 k (t + (ys.drop i).sum) r (r.length : Int) 0 c s mn mx h r R) v) → (¬ (∀ x ∈ ys.drop i, 0 ≤ x ∧ x ≤ 1000000000) → v = false) →
    Ev (fun k => impl_SketchOk.l0 k t ys (ys.length : Int) (i : Int) c s mn mx h r R) v := by
  induction d with
  | zero =>
    intro i t hi h0 ht h1 _
    refine Ev.step (fun _ => rfl) ?_
    simp only [impl_SketchOk.l0]
    refine ev_neg (by omega) ?_
    rw [List.drop_of_length_le (by omega)] at h1
    have := h1 (fun x hx => by cases hx)
    rw [List.sum_nil, Int.add_zero] at this
    exact this
  | succ d ih =>
    intro i t hi h0 ht h1 h2
    have hg : i < ys.length := by omega
    rw [List.drop_eq_getElem_cons hg] at h1 h2
    refine Ev.step (fun _ => rfl) ?_
    simp only [impl_SketchOk.l0]
    rw [wsucc (by omega), rd_get hg]
    refine ev_pos (by omega) (ev_pos (by omega) (ev_pos (by omega) (ev_bind0 (within_is _ _ _) ?_)))
    by_cases g : 0 ≤ ys[i] ∧ ys[i] ≤ 1000000000
    · refine ev_pos (decide_eq_true g) ?_
      rw [w64 (x := t + ys[i]) (by omega) (by omega)]
      refine ih (i + 1) _ (by omega) (by omega) (by omega) (fun q => ?_) (fun q => h2 fun p => q fun x hx => p x (List.mem_cons_of_mem _ hx))
      rw [Int.add_assoc, ← List.sum_cons]
      refine h1 fun x hx => ?_
      rcases List.mem_cons.1 hx with rfl | hx
      · exact g
      · exact q x hx
    · exact ev_neg (by rw [decide_eq_false g]; exact Bool.false_ne_true) (ev_some (h2 fun q => g (q _ List.mem_cons_self)).symm)
theorem impl_sketchOk_ev (c s mn mx : Int) (h r : List Int) (R : List (List Int)) : Ev (fun k => impl_SketchOk.f k c s mn mx h r R) (skOk c s mn mx h r R) := by
  have bad : ¬ SkOk c s mn mx h r R → Ev (fun k => impl_SketchOk.j0 k true c s mn mx h r R) (skOk c s mn mx h r R) := by
    intro hb
    refine Ev.step (fun _ => rfl) ?_
    simp only [impl_SketchOk.j0]
    exact ev_pos (by trivial) (ev_some (skOk_false hb).symm)
  unfold impl_SketchOk.f
  by_cases a1 : h.length = 8
  case neg => exact ev_neg (by omega) (bad fun g => a1 g.2.2.2.2.2.2.2.1.1)
  refine ev_pos (by omega) ?_
  by_cases a2 : r.length = 8
  case neg => exact ev_neg (by omega) (bad fun g => a2 g.2.2.2.2.2.2.2.2.1.1)
  refine ev_pos (by omega) ?_
  by_cases a3 : R.length = 2
  case neg => exact ev_neg (by omega) (bad fun g => a3 g.2.2.2.2.2.1)
  refine ev_pos (by omega) (ev_pos (by omega) ?_)
  by_cases a4 : (rd_L1 R 0).length = 4
  case neg => exact ev_neg (by omega) (bad fun g => a4 g.2.2.2.2.2.2.2.2.2.1.1)
  refine ev_pos (by omega) (ev_pos (by omega) ?_)
  by_cases a5 : (rd_L1 R 1).length = 4
  case neg =>
    have e : (((rd_L1 R 1).length : Int) != 4) = true := by simp; omega
    rw [e]
    exact bad fun g => a5 g.2.2.2.2.2.2.2.2.2.2.1
  have e : (((rd_L1 R 1).length : Int) != 4) = false := by simp; omega
  rw [e]
  clear e bad
  obtain ⟨A, B, rfl⟩ : ∃ A B, R = [A, B] := by
    match R, a3 with
    | [A, B], _ => exact ⟨A, B, rfl⟩
  have eA : rd_L1 [A, B] 0 = A := rfl
  have eB : rd_L1 [A, B] 1 = B := rfl
  rw [eA] at a4
  rw [eB] at a5
  refine Ev.step (fun _ => rfl) ?_
  simp only [impl_SketchOk.j0]
  refine ev_neg (by simp) (Ev.bind (counts_ev c s mn mx h r A B (by omega) (by omega) (by omega) (by omega)) (ev_bind0 rfl (ev_pos ?_ (ev_bind0 rfl ?_))))
  · simp only [List.length_append, List.length_cons, List.length_nil]
    omega
  generalize hys : (((h ++ r) ++ A) ++ B) ++ [c, s, mn, mx] = ys
  have hyl : ys.length = 28 := by
    rw [← hys]
    simp only [List.length_append, List.length_cons, List.length_nil]
    omega
  have hmem : ∀ P : Int → Prop, (∀ x ∈ ys, P x) ↔ (∀ x ∈ h, P x) ∧ (∀ x ∈ r, P x) ∧ (∀ x ∈ A, P x) ∧ (∀ x ∈ B, P x) ∧ P c ∧ P s ∧ P mn ∧ P mx := by
    intro P
    rw [← hys]
    constructor
    · intro q
      exact ⟨fun x hx => q x (by simp [hx]), fun x hx => q x (by simp [hx]), fun x hx => q x (by simp [hx]), fun x hx => q x (by simp [hx]), q c (by simp), q s (by simp), q mn (by simp), q mx (by simp)⟩
    · rintro ⟨q1, q2, q3, q4, q5, q6, q7, q8⟩ x hx
      simp only [List.mem_append, List.mem_cons, List.not_mem_nil, or_false] at hx
      rcases hx with (((hx | hx) | hx) | hx) | rfl | rfl | rfl | rfl
      · exact q1 x hx
      · exact q2 x hx
      · exact q3 x hx
      · exact q4 x hx
      · exact q5
      · exact q6
      · exact q7
      · exact q8
  refine impl_sketchOk_l0 c s mn mx h r [A, B] _ ys (by omega) 28 0 0 (by omega) (by omega) (by omega) (fun q => ?_) (fun q => skOk_false fun g => q ?_)
  · rw [List.drop_zero] at q
    rw [List.drop_zero, Int.zero_add]
    have qq := (hmem _).1 q
    refine impl_sketchOk_l1 c s mn mx h r [A, B] _ ys.sum (by omega) 8 0 (by omega) (fun p => ?_) (fun p => skOk_false fun g => p fun x hx => ?_)
    · rw [List.drop_zero] at p
      by_cases hc : c = 0
      · rw [if_pos hc]
        by_cases hz : ys.sum = 0
        · have z := (hmem _).1 (sum_zero ys q hz)
          have e : (ys.sum == 0) = true := by simpa using hz
          rw [e]
          refine skOk_true.2 ⟨by omega, by omega, by omega, by omega, by omega, rfl, fun _ => ⟨z.2.2.2.2.2.1, z.2.2.2.2.2.2.2⟩, ⟨a1, fun x hx => ⟨qq.1 x hx, fun _ => z.1 x hx⟩⟩, ⟨a2, fun x hx => ⟨⟨(qq.2.1 x hx).1, p x hx⟩, fun _ => z.2.1 x hx⟩⟩, ⟨a4, fun x hx => ⟨qq.2.2.1 x hx, fun _ => z.2.2.1 x hx⟩⟩, ⟨a5, fun x hx => ⟨qq.2.2.2.1 x hx, fun _ => z.2.2.2.1 x hx⟩⟩⟩
        · have e : (ys.sum == 0) = false := by simpa using hz
          rw [e]
          refine skOk_false fun g => hz (zero_sum ys ((hmem _).2 ?_))
          obtain ⟨g1, g2, g3, g4, g5, g6, g7, g8, g9, g10, g11⟩ := g
          have := g7 hc
          exact ⟨fun x hx => (g8.2 x hx).2 hc, fun x hx => (g9.2 x hx).2 hc, fun x hx => (g10.2 x hx).2 hc, fun x hx => (g11.2 x hx).2 hc, hc, this.1, by omega, this.2⟩
      · rw [if_neg hc]
        by_cases hm : mn ≤ mx ∧ mx ≤ 1000000
        · rw [decide_eq_true hm]
          refine skOk_true.2 ⟨qq.2.2.2.2.1, qq.2.2.2.2.2.1, by omega, by omega, hm.1, rfl, fun z => absurd z hc, ⟨a1, fun x hx => ⟨qq.1 x hx, fun z => absurd z hc⟩⟩, ⟨a2, fun x hx => ⟨⟨(qq.2.1 x hx).1, p x hx⟩, fun z => absurd z hc⟩⟩, ⟨a4, fun x hx => ⟨qq.2.2.1 x hx, fun z => absurd z hc⟩⟩, ⟨a5, fun x hx => ⟨qq.2.2.2.1 x hx, fun z => absurd z hc⟩⟩⟩
        · rw [decide_eq_false hm]
          exact skOk_false fun g => hm ⟨g.2.2.2.2.1, g.2.2.2.1.2⟩
    · rw [List.drop_zero] at hx
      exact (g.2.2.2.2.2.2.2.2.1.2 x hx).1.2
  · rw [List.drop_zero]
    obtain ⟨g1, g2, g3, g4, g5, g6, g7, g8, g9, g10, g11⟩ := g
    exact (hmem _).2 ⟨fun x hx => (g8.2 x hx).1, fun x hx => by have := (g9.2 x hx).1; omega, fun x hx => (g10.2 x hx).1, fun x hx => (g11.2 x hx).1, g1, g2, by omega, by omega⟩
def clipV (a : Int) : Nat := if a ≤ 0 then 0 else if a ≤ 1000000 then a.toNat else 1000000
theorem clipV_le (a : Int) : clipV a ≤ 1000000 := by
  unfold clipV
  split
  · omega
  · split <;> omega
def bl : Nat → Nat → Nat
  | 0, _ => 0
  | d + 1, x => if x = 0 then 0 else bl d (x / 2) + 1
theorem bl_le (d x : Nat) : bl d x ≤ d := by
  induction d generalizing x with
  | zero => exact Nat.le_refl _
  | succ d ih =>
    unfold bl
    split
    · omega
    · have := ih (x / 2)
      omega
set_option maxRecDepth 100000 in
def bucketOf (a : Int) : Int := (((bl 20 (clipV a) + 2) / 3 : Nat) : Int)
theorem third (q : Nat) (h : q ≤ 20) : wrap64 (Int.tdiv (wrap64 ((q : Int) + 2)) 3) = (((q + 2) / 3 : Nat) : Int) := by
  rw [w64 (x := (q : Int) + 2) (by omega) (by omega), Int.tdiv_eq_ediv_of_nonneg (by omega), w64 (by omega) (by omega)]
  omega
theorem spec_clip_is (a : Int) : spec_l2Clip.f a 1000000 = some ((clipV a : Nat) : Int) := by
  unfold spec_l2Clip.f spec_l1Min.f spec_l1Max.f clipV
  by_cases h : a < 1000000
  · rw [if_pos h]
    simp only [Option.bind_some]
    by_cases h2 : a ≤ 0
    · rw [if_pos h2]
      by_cases h3 : 0 > a
      · rw [if_pos h3]
        rfl
      · rw [if_neg h3]
        simp only [Option.bind_some, Option.some.injEq]
        omega
    · rw [if_neg (by omega), if_neg h2, if_pos (by omega)]
      simp only [Option.bind_some, Option.some.injEq]
      omega
  · rw [if_neg h]
    simp only [Option.bind_some]
    rw [if_neg (by omega), if_neg (by omega : ¬ a ≤ 0)]
    by_cases h2 : a ≤ 1000000
    · rw [if_pos h2]
      simp only [Option.bind_some, Option.some.injEq]
      omega
    · rw [if_neg h2]
      rfl
theorem spec_bucket_at (d : Nat) : ∀ (x n : Nat), x < 2 ^ d → n + d ≤ 20 → Ev (fun k => spec_BucketOf.l0 k (x : Int) (n : Int)) (((n + bl d x + 2) / 3 : Nat) : Int) := by
  induction d with
  | zero =>
    intro x n hx hn
    obtain rfl : x = 0 := by omega
    refine Ev.step (fun _ => rfl) ?_
    simp only [spec_BucketOf.l0]
    exact ev_neg (by omega) (ev_some (third n (by omega)))
  | succ d ih =>
    intro x n hx hn
    refine Ev.step (fun _ => rfl) ?_
    simp only [spec_BucketOf.l0]
    unfold bl
    by_cases h0 : x = 0
    · rw [if_pos h0]
      exact ev_neg (by omega) (ev_some (third n (by omega)))
    · rw [if_neg h0]
      refine ev_pos (by omega) ?_
      have e : wrap64 (Int.tdiv (x : Int) 2) = ((x / 2 : Nat) : Int) := by
        have : x < 2 ^ 20 := Nat.lt_of_lt_of_le hx (Nat.pow_le_pow_right (by omega) (by omega))
        rw [Int.tdiv_eq_ediv_of_nonneg (by omega), w64 (by omega) (by omega)]
        omega
      rw [e, wsucc (by omega)]
      rw [Nat.pow_succ] at hx
      have := ih (x / 2) (n + 1) (by omega) (by omega)
      rw [show n + (bl d (x / 2) + 1) + 2 = n + 1 + bl d (x / 2) + 2 by omega]
      exact this
theorem spec_bucketOf_ev (a : Int) : Ev (fun k => spec_BucketOf.f k a) (bucketOf a) := by
  unfold spec_BucketOf.f bucketOf
  refine ev_bind0 (spec_clip_is a) ?_
  have := clipV_le a
  have h := spec_bucket_at 20 (clipV a) 0 (by omega) (by omega)
  rw [Nat.zero_add] at h
  exact h
def mixN (a : Int) : Nat := (clipV a * 40503 + 12345) % 65536 ^^^ (clipV a * 40503 + 12345) % 65536 / 256
theorem mixN_lt (a : Int) : mixN a < 65536 := by
  unfold mixN
  have h1 : (clipV a * 40503 + 12345) % 65536 < 2 ^ 16 := by omega
  have := Nat.xor_lt_two_pow (n := 16) h1 (show (clipV a * 40503 + 12345) % 65536 / 256 < 2 ^ 16 by omega)
  omega
theorem mix_val (a : Int) : Go.bits .xor .i64 (Int.tmod (wrap64 (wrap64 (((clipV a : Nat) : Int) * 40503) + 12345)) 65536) (wrap64 (Int.tdiv (Int.tmod (wrap64 (wrap64 (((clipV a : Nat) : Int) * 40503) + 12345)) 65536) 256)) = ((mixN a : Nat) : Int) := by
  have hc := clipV_le a
  have e : Int.tmod (wrap64 (wrap64 (((clipV a : Nat) : Int) * 40503) + 12345)) 65536 = (((clipV a * 40503 + 12345) % 65536 : Nat) : Int) := by
    rw [w64 (x := ((clipV a : Nat) : Int) * 40503) (by omega) (by omega), w64 (by omega) (by omega), Int.tmod_eq_emod_of_nonneg (by omega)]
    omega
  rw [e]
  clear e
  have e2 : wrap64 (Int.tdiv (((clipV a * 40503 + 12345) % 65536 : Nat) : Int) 256) = (((clipV a * 40503 + 12345) % 65536 / 256 : Nat) : Int) := by
    rw [Int.tdiv_eq_ediv_of_nonneg (by omega), w64 (by omega) (by omega)]
    omega
  rw [e2]
  clear e2
  exact xor64 _ _ (by omega) (by omega)
theorem spec_mix_is (a : Int) : spec_Mix.f a = some ((mixN a : Nat) : Int) := by
  unfold spec_Mix.f
  rw [spec_clip_is, Option.bind_some, mix_val]
def rankV (n : Int) : Int := if mixN n = 0 then 17 else ((Lib.ctz 64 (mixN n) : Nat) : Int) + 1
theorem spec_rank_at (m : Nat) : ∀ (j : Nat) (r : Int), 2 ^ j * (2 * m + 1) < 65536 → 0 ≤ r → r + j ≤ 1000 → Ev (fun k => spec_RankOf.l0 k ((2 ^ j * (2 * m + 1) : Nat) : Int) r) (r + (j : Int)) := by
  intro j
  induction j with
  | zero =>
    intro r hx h0 h1
    refine Ev.step (fun _ => rfl) ?_
    simp only [spec_RankOf.l0]
    refine ev_neg ?_ (ev_some (by omega))
    rw [Int.tmod_eq_emod_of_nonneg (by omega)]
    omega
  | succ j ih =>
    intro r hx h0 h1
    have e : 2 ^ (j + 1) * (2 * m + 1) = 2 * (2 ^ j * (2 * m + 1)) := by rw [Nat.pow_succ]; simp [Nat.mul_comm, Nat.mul_left_comm]
    rw [e] at hx ⊢
    have ih' := ih (r + 1) (by omega) (by omega) (by omega)
    generalize 2 ^ j * (2 * m + 1) = y at hx ih'
    refine Ev.step (fun _ => rfl) ?_
    simp only [spec_RankOf.l0]
    refine ev_pos ?_ ?_
    · rw [Int.tmod_eq_emod_of_nonneg (by omega)]
      omega
    · rw [Int.tdiv_eq_ediv_of_nonneg (by omega), w64 (x := ((2 * y : Nat) : Int) / 2) (by omega) (by omega), w64 (x := r + 1) (by omega) (by omega), show ((2 * y : Nat) : Int) / 2 = (y : Int) by omega, show r + ((j + 1 : Nat) : Int) = r + 1 + (j : Int) by omega]
      exact ih'
theorem rank_lt (n : Int) (h : mixN n ≠ 0) : ∃ m, mixN n = 2 ^ Lib.ctz 64 (mixN n) * (2 * m + 1) ∧ Lib.ctz 64 (mixN n) < 64 := by
  have h2 := mixN_lt n
  have := Lib.ctzFrom_spec 64 (mixN n) (by omega) (by omega)
  unfold Lib.ctz
  rw [if_neg h]
  exact this
theorem spec_rank_ev (n : Int) : Ev (fun k => spec_RankOf.f k n) (rankV n) := by
  unfold spec_RankOf.f rankV
  refine ev_bind0 (spec_mix_is n) ?_
  by_cases h : mixN n = 0
  · rw [if_pos h]
    exact ev_pos (by omega) (ev_some rfl)
  · rw [if_neg h]
    refine ev_neg (by omega) ?_
    obtain ⟨m, hm, hk⟩ := rank_lt n h
    have hl := mixN_lt n
    have e := spec_rank_at m (Lib.ctz 64 (mixN n)) 1 (by rw [← hm]; exact hl) (by omega) (by omega)
    rw [← hm] at e
    rw [Int.add_comm]
    exact e
def bkN (v : Int) : Nat := (bl 20 (clipV v) + 2) / 3
theorem bucketOf_is (v : Int) : bucketOf v = ((bkN v : Nat) : Int) := rfl
theorem bkN_lt (v : Int) : bkN v < 8 := by
  have := bl_le 20 (clipV v)
  unfold bkN
  omega
theorem rankV_range (v : Int) : 1 ≤ rankV v ∧ rankV v ≤ 17 := by
  unfold rankV
  by_cases h : mixN v = 0
  · rw [if_pos h]; omega
  · rw [if_neg h]
    obtain ⟨m, hm, hk⟩ := rank_lt v h
    have hl := mixN_lt v
    have hp : Lib.ctz 64 (mixN v) < 16 := by
      rcases Nat.lt_or_ge (Lib.ctz 64 (mixN v)) 16 with h' | h'
      · exact h'
      · have h2 : 2 ^ 16 ≤ 2 ^ Lib.ctz 64 (mixN v) := Nat.pow_le_pow_right (by omega) h'
        have h3 : 2 ^ Lib.ctz 64 (mixN v) * 1 ≤ 2 ^ Lib.ctz 64 (mixN v) * (2 * m + 1) := Nat.mul_le_mul_left _ (by omega)
        omega
    omega
theorem spec_add_is {a b : Int} (ha : 0 ≤ a ∧ a ≤ 1000000000) (hb : 0 ≤ b ∧ b ≤ 1000000000) : spec_Add.f a b = some (sadd a b) := by
  have c : ∀ x : Int, 0 ≤ x ∧ x ≤ 1000000000 → spec_l2Clip.f x 1000000000 = some x := by
    intro x hx
    unfold spec_l2Clip.f spec_l1Min.f spec_l1Max.f
    by_cases h : x < 1000000000
    · simp only [if_pos h, Option.bind_some]
      split
      · congr 1; omega
      · rfl
    · simp only [if_neg h, Option.bind_some]
      rw [if_neg (by omega), show x = 1000000000 by omega]
      rfl
  unfold spec_Add.f spec_l1Min.f
  rw [c a ha, c b hb, Option.bind_some, Option.bind_some, w64 (x := a + b) (by omega) (by omega)]
  unfold sadd
  by_cases h : a + b < 1000000000
  · rw [if_pos h, if_neg (by omega)]
    rfl
  · rw [if_neg h]
    split
    · rfl
    · simp only [Option.bind_some]
      congr 1
      omega
theorem spec_copy_at (c s lo hi : Int) (h r : List Int) (R : List (List Int)) (hR : R.length ≤ 1048576) (hx : ∀ x ∈ R, x.length ≤ 1048576) (d : Nat) : ∀ i : Nat, i + d = R.length →
    Ev (fun k => spec_l3Copy.l0 k (i : Int) c s lo hi h r R c s lo hi h r (R.take i)) (c, s, lo, hi, h, r, R) := by
  induction d with
  | zero =>
    intro i hi'
    refine Ev.step (fun _ => rfl) ?_
    simp only [spec_l3Copy.l0]
    exact ev_neg (by omega) (ev_some (by rw [show i = R.length by omega, List.take_length]))
  | succ d ih =>
    intro i hi'
    refine Ev.step (fun _ => rfl) ?_
    simp only [spec_l3Copy.l0]
    have hiR : i < R.length := by omega
    have hl := hx _ (List.getElem_mem hiR)
    rw [wsucc (by omega), rdR_get hiR]
    simp only [Option.bind_some]
    refine ev_pos (by omega) (ev_pos (by omega) (ev_pos (by simp; omega) (ev_pos (by simp; omega) ?_)))
    rw [List.nil_append, ← List.take_succ_eq_append_getElem hiR]
    exact ih (i + 1) (by omega)
theorem spec_copy_ev (c s lo hi : Int) (h r : List Int) (R : List (List Int)) (hh : h.length ≤ 1048576) (hr : r.length ≤ 1048576) (hR : R.length ≤ 1048576) (hx : ∀ x ∈ R, x.length ≤ 1048576) :
    Ev (fun k => spec_l3Copy.f k c s lo hi h r R) (c, s, lo, hi, h, r, R) := by
  unfold spec_l3Copy.f
  simp only [Option.bind_some]
  refine ev_pos (by simp; omega) (ev_pos (by simp; omega) ?_)
  have := spec_copy_at c s lo hi h r R hR hx R.length 0 (by omega)
  simpa using this
theorem two_rows {R : List (List Int)} (h : R.length = 2) : ∃ p q, R = [p, q] := by
  match R, h with
  | [p, q], _ => exact ⟨p, q, rfl⟩
theorem skOk_su {c s lo hi : Int} {h r p q : List Int} (ok : SkOk c s lo hi h r [p, q]) : Su.Ok ⟨c, s, lo, hi, h, r, p, q⟩ := by
  obtain ⟨h1, h2, h3, h4, h5, h6, h7, h8, h9, h10, h11⟩ := ok
  exact ⟨h1, h2, h3, h4, h5, h7, h8, h9, h10, h11⟩
theorem su_skOk {u : Su} (ok : u.Ok) : SkOk u.c u.s u.mn u.mx u.h u.r [u.p, u.q] := ⟨ok.hc, ok.hs, ok.hmn, ok.hmx, ok.hle, rfl, ok.hz, ok.hh, ok.hr, ok.hp, ok.hq⟩
theorem lok_getD {xs : List Int} {n : Nat} {most : Int} {z : Prop} (h : LOk xs n most z) {i : Nat} (hi : i < n) : 0 ≤ xs.getD i 0 ∧ xs.getD i 0 ≤ most := by
  have h1 : i < xs.length := by rw [h.1]; exact hi
  rw [List.getD_eq_getElem?_getD, List.getElem?_eq_getElem h1]
  exact (h.2 _ (List.getElem_mem h1)).1
def suPut (u : Su) (v : Int) : Su := Su.ins bkN mixN rankV u v
def suOut (u : Su) (b : Bool) : Int × Int × Int × Int × List Int × List Int × List (List Int) × Bool := (u.c, u.s, u.mn, u.mx, u.h, u.r, [u.p, u.q], b)
noncomputable def insV (c s lo hi : Int) (h r : List Int) (R : List (List Int)) (v : Int) : Int × Int × Int × Int × List Int × List Int × List (List Int) × Bool :=
  if skOk c s lo hi h r R = true ∧ 0 ≤ v ∧ v ≤ 1000000 then suOut (suPut ⟨c, s, lo, hi, h, r, rd_L1 R 0, rd_L1 R 1⟩ v) true else (c, s, lo, hi, h, r, R, false)
theorem spec_g_ev (u : Su) (ok : u.Ok) (v : Int) (hv : 0 ≤ v ∧ v ≤ 1000000) : Ev (fun k => spec_Insert.g k u.c u.s u.mn u.mx u.h u.r [u.p, u.q] v) (suOut (suPut u v) true) := by
  have hb := bkN_lt v
  have hm := mixN_lt v
  have q0 : ∀ p q : List Int, [p, q].getD 0 [] = p := fun _ _ => rfl
  have q1 : ∀ p q : List Int, [p, q].getD 1 [] = q := fun _ _ => rfl
  have emx : ∀ x y : Int, spec_l1Max.f x y = some (hi2 x y) := by
    intro x y
    unfold spec_l1Max.f hi2
    split <;> rfl
  have emn : ∀ x y : Int, spec_l1Min.f x y = some (lo2 x y) := by
    intro x y
    unfold spec_l1Min.f lo2
    split <;> rfl
  unfold spec_Insert.g
  refine ev_bind0 (spec_add_is ok.hc (by omega)) (ev_bind0 (spec_add_is ok.hs (by omega)) ((ev_bind0 (emn _ _) (ev_bind0 (emx _ _) (Ev.bind (spec_bucketOf_ev v) (ev_bind0 (spec_mix_is v) ?_))))))
  rw [bucketOf_is]
  simp only [Int.toNat_natCast, q0, q1]
  refine ev_bind0 (spec_add_is (lok_getD ok.hh hb) (by omega)) (Ev.bind (spec_rank_ev v) (ev_bind0 (emx _ _) (ev_bind0 (spec_add_is (lok_getD ok.hp (by omega)) (by omega)) (ev_bind0 (spec_add_is (lok_getD ok.hq (by omega)) (by omega)) (ev_pos ⟨ok.hh.1, ok.hr.1, rfl, ok.hp.1, ok.hq.1, by omega, by omega, by omega, by omega⟩ (ev_some ?_))))))
  have hz := ok.hz
  have hle := ok.hle
  have hmn := ok.hmn
  simp only [suPut, suOut, Su.ins, upd, Nat.zero_add, Nat.add_comm 1]
theorem spec_insert_ev (c s lo hi : Int) (h r : List Int) (R : List (List Int)) (v : Int) (hh : h.length ≤ 1048576) (hr : r.length ≤ 1048576) (hR : R.length ≤ 1048576) (hx : ∀ x ∈ R, x.length ≤ 1048576) :
    Ev (fun k => spec_Insert.f k c s lo hi h r R v) (insV c s lo hi h r R v) := by
  unfold spec_Insert.f insV
  refine Ev.bind (spec_copy_ev c s lo hi h r R hh hr hR hx) (ev_pos ⟨rfl, rfl, rfl, rfl, rfl, rfl, rfl⟩ (Ev.bind (spec_sketchOk_ev c s lo hi h r R) ?_))
  cases ok : skOk c s lo hi h r R with
  | false =>
    rw [if_neg (by simp)]
    exact ev_neg (by simp) (ev_some rfl)
  | true =>
    have hok := skOk_true.1 ok
    obtain ⟨p, q, rfl⟩ := two_rows hok.2.2.2.2.2.1
    refine ev_pos (by trivial) (ev_bind0 (l1In_is v 0 1000000) ?_)
    by_cases hv : 0 ≤ v ∧ v ≤ 1000000
    · rw [if_pos ⟨by trivial, hv⟩]
      exact ev_pos (by simp [hv]) (spec_g_ev ⟨c, s, lo, hi, h, r, p, q⟩ (skOk_su hok) v hv)
    · rw [if_neg (fun e => hv e.2)]
      exact ev_neg (by simp; omega) (ev_some rfl)
def suT (u : Su) : Int × Int × Int × Int × List Int × List Int × List (List Int) := (u.c, u.s, u.mn, u.mx, u.h, u.r, [u.p, u.q])
def suInsO (u : Su) (v : Int) : Su := Su.insO bkN mixN rankV u v
def suOf (l : List Int) : Su := Su.of bkN mixN rankV l
theorem rk17 : ∀ v, 0 ≤ rankV v ∧ rankV v ≤ 17 := fun v => by have := rankV_range v; omega
theorem suInsO_ok {u : Su} (h : u.Ok) (v : Int) : (suInsO u v).Ok := Su.insO_ok bkN mixN rankV rk17 h v
theorem suOf_ok (l : List Int) : (suOf l).Ok := Su.of_ok bkN mixN rankV rk17 l
theorem ins_at {u : Su} (h : u.Ok) (v : Int) : ∃ t, insV u.c u.s u.mn u.mx u.h u.r [u.p, u.q] v = suOut (suInsO u v) t := by
  unfold insV suInsO Su.insO
  rw [skOk_true.2 (su_skOk h)]
  by_cases hv : 0 ≤ v ∧ v ≤ 1000000
  · rw [if_pos ⟨rfl, hv⟩, if_pos hv]
    exact ⟨true, rfl⟩
  · rw [if_neg (fun e => hv e.2), if_neg hv]
    exact ⟨false, rfl⟩
theorem su_lens {u : Su} (h : u.Ok) : u.h.length ≤ 1048576 ∧ u.r.length ≤ 1048576 ∧ [u.p, u.q].length ≤ 1048576 ∧ ∀ x ∈ [u.p, u.q], x.length ≤ 1048576 := by
  have h1 := h.hh.1
  have h2 := h.hr.1
  have h3 := h.hp.1
  have h4 := h.hq.1
  refine ⟨by omega, by omega, by simp, fun x hx => ?_⟩
  simp only [List.mem_cons, List.not_mem_nil, or_false] at hx
  rcases hx with rfl | rfl <;> omega
theorem spec_sketched_at (l : List Int) (hl : l.length ≤ 1048576) (d : Nat) : ∀ (i : Nat) (u : Su), u.Ok → i + d = l.length →
    Ev (fun k => spec_Sketched.l0 k l (i : Int) u.c u.s u.mn u.mx u.h u.r [u.p, u.q]) (suT ((l.drop i).foldl suInsO u)) := by
  induction d with
  | zero =>
    intro i u hu hi
    refine Ev.step (fun _ => rfl) ?_
    simp only [spec_Sketched.l0]
    exact ev_neg (by omega) (ev_some (by rw [List.drop_of_length_le (by omega)]; rfl))
  | succ d ih =>
    intro i u hu hi
    refine Ev.step (fun _ => rfl) ?_
    simp only [spec_Sketched.l0]
    have hil : i < l.length := by omega
    obtain ⟨b1, b2, b3, b4⟩ := su_lens hu
    obtain ⟨t, e⟩ := ins_at hu (rd l (i : Int))
    have hins := spec_insert_ev u.c u.s u.mn u.mx u.h u.r [u.p, u.q] (rd l (i : Int)) b1 b2 b3 b4
    rw [e] at hins
    refine ev_pos (by omega) (ev_pos (by omega) (Ev.bind hins ?_))
    rw [wsucc (by omega)]
    have := ih (i + 1) (suInsO u (rd l (i : Int))) (suInsO_ok hu _) (by omega)
    rw [List.drop_eq_getElem_cons hil, List.foldl_cons, ← rd_get hil]
    exact this
theorem spec_sketched_ev (l : List Int) (hl : l.length ≤ 1048576) : Ev (fun k => spec_Sketched.f k l) (suT (suOf l)) := by
  unfold spec_Sketched.f
  refine ev_bind0 rfl ?_
  have := spec_sketched_at l hl l.length 0 Su.new Su.new_ok (by omega)
  exact this
theorem pick_at (l : List Int) (hl : l.length ≤ 281474976702464) (p : Nat) (hp : p ≤ l.length) (r : Int) (xs : List Int) (h0 : 0 < xs.length) (h1 : xs.length ≤ 256) :
    ∃ (v : Int) (q : Nat) (s : Int), spec_l1PickInt.f l p r xs = some (v, (q : Int), s) ∧ q ≤ l.length := by
  obtain ⟨v, q, s, e, hv, hq⟩ := l1Below_is l hl p hp r xs.length h0 h1
  refine ⟨rd xs (v : Int), q, s, ?_, hq⟩
  unfold spec_l1PickInt.f
  rw [e]
  simp only [Option.bind_some]
  rw [if_pos (by omega), if_pos (by omega)]
theorem l3Values_at (l : List Int) (hl : l.length ≤ 281474976702464) (n : Nat) (hn : n ≤ 6) (d : Nat) : ∀ (i p : Nat) (r : Int) (xs : List Int), i + d = n → p ≤ l.length → xs.length = i →
    ∃ (ys : List Int) (q : Nat) (s : Int), Ev (fun k => spec_l3Values.l0 k xs (n : Int) (i : Int) l (p : Int) r) (ys, (q : Int), s) ∧ ys.length = n ∧ q ≤ l.length := by
  induction d with
  | zero =>
    intro i p r xs hi hp hx
    refine ⟨xs, p, r, Ev.step (fun _ => rfl) ?_, by omega, hp⟩
    simp only [spec_l3Values.l0]
    exact ev_neg (by omega) (ev_some rfl)
  | succ d ih =>
    intro i p r xs hi hp hx
    obtain ⟨v, q, s, e, hv, hq⟩ := l1Byte_is l hl p hp r
    obtain ⟨v2, q2, s2, e2, hq2⟩ := pick_at l hl q hq s [0, 1, 7, 8, 100, 5000, 1000000, (v : Int), 1000001, (-1)] (by simp) (by simp)
    obtain ⟨ys, q3, s3, h3, hy, hq3⟩ := ih (i + 1) q2 s2 (xs ++ [v2]) (by omega) hq2 (by simp; omega)
    refine ⟨ys, q3, s3, Ev.step (fun _ => rfl) ?_, hy, hq3⟩
    simp only [spec_l3Values.l0]
    refine ev_pos (by omega) (ev_bind0 e (ev_bind0 e2 (ev_pos (by omega) ?_)))
    rw [wsucc (by omega)]
    exact h3
theorem once_at (l : List Int) (hl : l.length ≤ 281474976702464) (p : Nat) (hp : p ≤ l.length) (r : Int) (n : Nat) (h0 : 0 < n) (h1 : n ≤ 256) :
    ∃ (b : Bool) (q : Nat) (s : Int), spec_l1Once.f l p r (n : Int) = some (b, (q : Int), s) ∧ q ≤ l.length := by
  obtain ⟨v, q, s, e, hv, hq⟩ := l1Below_is l hl p hp r n h0 h1
  refine ⟨((v : Int) == 0), q, s, ?_, hq⟩
  unfold spec_l1Once.f
  rw [e]
  rfl
theorem l3Values_ev (l : List Int) (hl : l.length ≤ 281474976702464) (p : Nat) (hp : p ≤ l.length) (r : Int) :
    ∃ (ys : List Int) (q : Nat) (s : Int), Ev (fun k => spec_l3Values.f k l (p : Int) r) (ys, (q : Int), s) ∧ ys.length ≤ 5 ∧ q ≤ l.length := by
  obtain ⟨n, q, s1, e1, hn, hq⟩ := l1Below_is l hl p hp r 6 (by omega) (by omega)
  obtain ⟨ys, q3, s3, h3, hy, hq3⟩ := l3Values_at l hl n (by omega) n 0 q s1 [] (by omega) hq rfl
  refine ⟨ys, q3, s3, ?_, by omega, hq3⟩
  unfold spec_l3Values.f
  exact ev_bind0 e1 h3
theorem l3Right_ev (l : List Int) (hl : l.length ≤ 281474976702464) (p : Nat) (hp : p ≤ l.length) (r : Int) :
    ∃ (c s mn mx : Int) (h g a b : List Int) (q : Nat) (z : Int), Ev (fun k => spec_l3Right.f k l (p : Int) r) (c, s, mn, mx, h, g, [a, b], (q : Int), z) ∧ h.length = 8 ∧ g.length = 8 ∧ a.length = 4 ∧ b.length = 4 ∧ q ≤ l.length := by
  obtain ⟨ys, q1, s1, h1, hy, hq1⟩ := l3Values_ev l hl p hp r
  obtain ⟨o, q2, s2, h2, hq2⟩ := once_at l hl q1 hq1 s1 16 (by omega) (by omega)
  obtain ⟨v, q3, s3, h3, _, hq3⟩ := l1Below_is l hl q2 hq2 s2 2 (by omega) (by omega)
  have ok := suOf_ok ys
  have hs := spec_sketched_ev ys (by omega)
  have l8 := ok.hh.1
  cases o with
  | false =>
    refine ⟨(suOf ys).c, (suOf ys).s, (suOf ys).mn, (suOf ys).mx, (suOf ys).h, (suOf ys).r, (suOf ys).p, (suOf ys).q, q2, s2, ?_, l8, ok.hr.1, ok.hp.1, ok.hq.1, hq2⟩
    unfold spec_l3Right.f
    exact Ev.bind h1 (Ev.bind hs (ev_bind0 h2 (ev_neg (by simp) (ev_some rfl))))
  | true =>
    by_cases hc : (suOf ys).c > 0
    · refine ⟨wrap64 (1000000000 - (v : Int)), 999999997, (suOf ys).mn, (suOf ys).mx, (suOf ys).h.set 3 1000000000, (suOf ys).r, (suOf ys).p, (suOf ys).q, q3, s3, ?_, ?_, ok.hr.1, ok.hp.1, ok.hq.1, hq3⟩
      · unfold spec_l3Right.f
        exact Ev.bind h1 (Ev.bind hs (ev_bind0 h2 (ev_pos rfl (ev_pos hc (ev_bind0 h3 (ev_pos (by simp only [suT]; omega) (ev_some rfl)))))))
      · rw [List.length_set]
        exact l8
    · refine ⟨(suOf ys).c, (suOf ys).s, (suOf ys).mn, (suOf ys).mx, (suOf ys).h, (suOf ys).r, (suOf ys).p, (suOf ys).q, q2, s2, ?_, l8, ok.hr.1, ok.hp.1, ok.hq.1, hq2⟩
      unfold spec_l3Right.f
      exact Ev.bind h1 (Ev.bind hs (ev_bind0 h2 (ev_pos rfl (ev_neg hc (ev_some rfl)))))
theorem l3Draw_ev (l : List Int) (hl : l.length ≤ 281474976702464) (p : Nat) (hp : p ≤ l.length) (r : Int) :
    ∃ (c s mn mx : Int) (h g : List Int) (R : List (List Int)) (q : Nat) (z : Int), Ev (fun k => spec_l3Draw.f k l (p : Int) r) (c, s, mn, mx, h, g, R, (q : Int), z) ∧ h.length ≤ 9 ∧ g.length ≤ 9 ∧ R.length ≤ 2 ∧ (∀ x ∈ R, x.length ≤ 9) ∧ q ≤ l.length := by
  obtain ⟨c, s, mn, mx, h, g, a, b, q1, s1, h1, lh, lg, la, lb, hq1⟩ := l3Right_ev l hl p hp r
  obtain ⟨v, q2, s2, h2, hv, hq2⟩ := l1Below_is l hl q1 hq1 s1 16 (by omega) (by omega)
  have hR : ∀ x ∈ [a, b], x.length ≤ 9 := fun x hx => by
    simp only [List.mem_cons, List.not_mem_nil, or_false] at hx
    rcases hx with rfl | rfl <;> omega
  by_cases v0 : (v : Int) = 0
  · obtain ⟨x, q3, s3, h3, hq3⟩ := pick_at l hl q2 hq2 s2 [(-1), 1000001, 500] (by simp) (by simp)
    refine ⟨c, s, x, mx, h, g, [a, b], q3, s3, ?_, show h.length ≤ 9 by omega, show g.length ≤ 9 by omega, show [a, b].length ≤ 2 by simp, hR, hq3⟩
    unfold spec_l3Draw.f
    exact Ev.bind h1 (ev_bind0 h2 (ev_pos v0 (ev_bind0 h3 (ev_some rfl))))
  by_cases v1 : (v : Int) = 1
  · obtain ⟨y, q3, s3, h3, hy, hq3⟩ := l1Below_is l hl q2 hq2 s2 8 (by omega) (by omega)
    obtain ⟨x, q4, s4, h4, hq4⟩ := pick_at l hl q3 hq3 s3 [(-1), 17, 18] (by simp) (by simp)
    refine ⟨c, s, mn, mx, h, g.set y x, [a, b], q4, s4, ?_, show h.length ≤ 9 by omega, show (g.set y x).length ≤ 9 by rw [List.length_set]; omega, show [a, b].length ≤ 2 by simp, hR, hq4⟩
    unfold spec_l3Draw.f
    exact Ev.bind h1 (ev_bind0 h2 (ev_neg v0 (ev_pos v1 (ev_bind0 h3 (ev_bind0 h4 (ev_pos (by omega) (ev_pos (show (y : Int) < (g.length : Int) by omega) (ev_some rfl))))))))
  by_cases v2 : (v : Int) = 2
  · refine ⟨c, s, mn, mx, h ++ [0], g, [a, b], q2, s2, ?_, show (h ++ [0]).length ≤ 9 by simp; omega, show g.length ≤ 9 by omega, show [a, b].length ≤ 2 by simp, hR, hq2⟩
    unfold spec_l3Draw.f
    exact Ev.bind h1 (ev_bind0 h2 (ev_neg v0 (ev_neg v1 (ev_pos v2 (ev_pos (show h.length < 17592186044416 by omega) (ev_some rfl))))))
  by_cases v3 : (v : Int) = 3
  · refine ⟨c, s, mn, mx, h, g, [a, b].take 1, q2, s2, ?_, show h.length ≤ 9 by omega, show g.length ≤ 9 by omega, show ([a, b].take 1).length ≤ 2 by simp, fun x hx => hR x (List.mem_of_mem_take hx), hq2⟩
    unfold spec_l3Draw.f
    exact Ev.bind h1 (ev_bind0 h2 (ev_neg v0 (ev_neg v1 (ev_neg v2 (ev_pos v3 (ev_pos (by simp) (ev_some rfl)))))))
  by_cases v4 : (v : Int) = 4
  · obtain ⟨x, q3, s3, h3, hq3⟩ := pick_at l hl q2 hq2 s2 [0, (-1), 1000000001] (by simp) (by simp)
    refine ⟨x, s, mn, mx, h, g, [a, b], q3, s3, ?_, show h.length ≤ 9 by omega, show g.length ≤ 9 by omega, show [a, b].length ≤ 2 by simp, hR, hq3⟩
    unfold spec_l3Draw.f
    exact Ev.bind h1 (ev_bind0 h2 (ev_neg v0 (ev_neg v1 (ev_neg v2 (ev_neg v3 (ev_pos v4 (ev_bind0 h3 (ev_some rfl))))))))
  by_cases v5 : (v : Int) = 5
  · obtain ⟨x, q3, s3, h3, hq3⟩ := pick_at l hl q2 hq2 s2 [(-1), 3, 1000000001] (by simp) (by simp)
    refine ⟨c, s, mn, mx, h, g, [a, b].set 1 (b.set 2 x), q3, s3, ?_, show h.length ≤ 9 by omega, show g.length ≤ 9 by omega, show ([a, b].set 1 (b.set 2 x)).length ≤ 2 by simp, fun y hy => ?_, hq3⟩
    · unfold spec_l3Draw.f
      exact Ev.bind h1 (ev_bind0 h2 (ev_neg v0 (ev_neg v1 (ev_neg v2 (ev_neg v3 (ev_neg v4 (ev_pos v5 (ev_pos (by simp) (ev_bind0 h3 (ev_pos (show (2 : Int) < (b.length : Int) by omega) (ev_some rfl)))))))))))
    · rcases List.mem_or_eq_of_mem_set hy with hy | rfl
      · exact hR y hy
      · rw [List.length_set]; omega
  · refine ⟨c, s, mn, mx, h, g, [a, b], q2, s2, ?_, show h.length ≤ 9 by omega, show g.length ≤ 9 by omega, show [a, b].length ≤ 2 by simp, hR, hq2⟩
    unfold spec_l3Draw.f
    exact Ev.bind h1 (ev_bind0 h2 (ev_neg v0 (ev_neg v1 (ev_neg v2 (ev_neg v3 (ev_neg v4 (ev_neg v5 (ev_some rfl))))))))
theorem impl_add_is {a b : Int} (ha : 0 ≤ a ∧ a ≤ 1000000000) (hb : 0 ≤ b ∧ b ≤ 1000000000) : impl_Add.f a b = some (sadd a b) := by
  unfold impl_Add.f impl_limited.f mn mx
  have e : ∀ x : Int, 0 ≤ x ∧ x ≤ 1000000000 → (if 1000000000 < (if x < 0 then 0 else x) then 1000000000 else (if x < 0 then 0 else x)) = x := by
    intro x hx
    repeat' split
    all_goals omega
  rw [e a ha, e b hb, Option.bind_some, Option.bind_some, w64 (x := a + b) (by omega) (by omega)]
  unfold sadd
  congr 1
  repeat' split
  all_goals omega
theorem impl_copy_at (c s lo hi : Int) (h r : List Int) (R : List (List Int)) (hR : R.length ≤ 1048576) (hx : ∀ x ∈ R, x.length ≤ 1048576) (d : Nat) : ∀ i : Nat, i + d = R.length →
    Ev (fun k => impl_copySketch.l0 k R (R.length : Int) (i : Int) c s lo hi h r (R.take i)) (c, s, lo, hi, h, r, R) := by
  induction d with
  | zero =>
    intro i hi'
    refine Ev.step (fun _ => rfl) ?_
    simp only [impl_copySketch.l0]
    exact ev_neg (by omega) (ev_some (by rw [show i = R.length by omega, List.take_length]))
  | succ d ih =>
    intro i hi'
    refine Ev.step (fun _ => rfl) ?_
    simp only [impl_copySketch.l0]
    have hiR : i < R.length := by omega
    have hl := hx _ (List.getElem_mem hiR)
    rw [wsucc (by omega), rdR_get hiR]
    refine ev_pos (by omega) (ev_pos (by omega) (ev_pos (by omega) (ev_bind0 (a := R[i]) (by unfold impl_copyInts.f; rw [if_pos (by simp; omega), List.nil_append]) (ev_pos (by simp; omega) ?_))))
    rw [← List.take_succ_eq_append_getElem hiR]
    exact ih (i + 1) (by omega)
theorem impl_copy_ev (c s lo hi : Int) (h r : List Int) (R : List (List Int)) (hh : h.length ≤ 1048576) (hr : r.length ≤ 1048576) (hR : R.length ≤ 1048576) (hx : ∀ x ∈ R, x.length ≤ 1048576) :
    Ev (fun k => impl_copySketch.f k c s lo hi h r R) (c, s, lo, hi, h, r, R) := by
  unfold impl_copySketch.f
  refine ev_bind0 (a := h) (by unfold impl_copyInts.f; rw [if_pos (by simp; omega), List.nil_append]) (ev_bind0 (a := r) (by unfold impl_copyInts.f; rw [if_pos (by simp; omega), List.nil_append]) ?_)
  have := impl_copy_at c s lo hi h r R hR hx R.length 0 (by omega)
  simpa using this
def sameL {α : Type} (eq : α → α → Bool) : List α → List α → Bool
  | [], [] => true
  | x :: xs, y :: ys => eq x y && sameL eq xs ys
  | [], _ :: _ => false
  | _ :: _, [] => false
theorem sameL_len {α : Type} (eq : α → α → Bool) : ∀ a b : List α, a.length ≠ b.length → sameL eq a b = false
  | [], [], h => absurd rfl h
  | _ :: xs, _ :: ys, h => by
    have := sameL_len eq xs ys (by simpa using h)
    simp [sameL, this]
  | [], _ :: _, _ => rfl
  | _ :: _, [], _ => rfl
theorem sameL_at {α : Type} (eq : α → α → Bool) (a b : List α) (i : Nat) (h : i < a.length) (h1 : i < b.length) :
    sameL eq (a.drop i) (b.drop i) = (eq a[i] b[i] && sameL eq (a.drop (i + 1)) (b.drop (i + 1))) := by
  rw [List.drop_eq_getElem_cons h, List.drop_eq_getElem_cons h1]
  rfl
theorem sameL_end {α : Type} (eq : α → α → Bool) (a b : List α) (i : Nat) (h : a.length ≤ i) (h1 : b.length ≤ i) : sameL eq (a.drop i) (b.drop i) = true := by
  rw [List.drop_eq_nil_of_le h, List.drop_eq_nil_of_le h1]
  rfl
def eqI (x y : Int) : Bool := decide (x = y)
theorem slices_Equal_at (a b : List Int) (hn : a.length ≤ 1048576) (hl : a.length = b.length) (d : Nat) : ∀ (i : Nat), i + d = a.length →
    Ev (fun k => slices_Equal_int_int.l0 k a b (a.length : Int) (i : Int)) (sameL eqI (a.drop i) (b.drop i)) := by
  induction d with
  | zero =>
    intro i hi
    refine Ev.step (fun _ => rfl) ?_
    simp only [slices_Equal_int_int.l0]
    exact ev_neg (by omega) (ev_some (sameL_end eqI a b i (by omega) (by omega)).symm)
  | succ d ih =>
    intro i hi
    refine Ev.step (fun _ => rfl) ?_
    simp only [slices_Equal_int_int.l0]
    rw [sameL_at eqI a b i (by omega) (by omega), rd_get (show i < a.length by omega), rd_get (show i < b.length by omega), wsucc (by omega)]
    refine ev_pos (by omega) (ev_pos (by omega) (ev_pos (by omega) (ev_pos (by omega) ?_)))
    by_cases e : a[i]'(by omega) = b[i]'(by omega)
    · refine ev_pos e ?_
      rw [show eqI (a[i]'(by omega)) (b[i]'(by omega)) = true from decide_eq_true e, Bool.true_and]
      exact ih (i + 1) (by omega)
    · refine ev_neg e (ev_some ?_)
      rw [show eqI (a[i]'(by omega)) (b[i]'(by omega)) = false from decide_eq_false e, Bool.false_and]
theorem slices_Equal_ev (a b : List Int) (hn : a.length ≤ 1048576) : Ev (fun k => slices_Equal_int_int.f k a b) (sameL eqI a b) := by
  unfold slices_Equal_int_int.f
  by_cases hl : a.length = b.length
  · exact ev_pos (by omega) (slices_Equal_at a b hn hl a.length 0 (by omega))
  · exact ev_neg (by omega) (ev_some (sameL_len eqI a b hl).symm)
theorem slices_EqualFunc_at (a b : List (List Int)) (hx : ∀ x ∈ a, x.length ≤ 1048576) (hl : a.length = b.length) : ∀ (g i : Nat), i ≤ a.length → i + g = a.length + 1 →
    Ev (fun k => slices_EqualFunc_int_int_int_int.l0 g k a b i) (sameL (sameL eqI) (a.drop i) (b.drop i)) := by
  intro g
  induction g with
  | zero =>
    intro i hi0 hi
    exact absurd hi (by omega)
  | succ g ih =>
    intro i hi0 hi
    simp only [slices_EqualFunc_int_int_int_int.l0]
    by_cases h : i < a.length
    · simp only [dif_pos h, dif_pos (show i < b.length by omega)]
      rw [sameL_at (sameL eqI) a b i h (by omega)]
      refine Ev.bind (slices_Equal_ev _ _ (hx _ (List.getElem_mem h))) ?_
      cases e : sameL eqI a[i] (b[i]'(by omega)) with
      | true =>
        rw [Bool.true_and]
        exact ev_pos rfl (ih (i + 1) (by omega) (by omega))
      | false =>
        rw [Bool.false_and]
        exact ev_neg (by decide) (ev_some rfl)
    · simp only [dif_neg h]
      exact ev_some (sameL_end (sameL eqI) a b i (by omega) (by omega)).symm
theorem slices_EqualFunc_ev (a b : List (List Int)) (hx : ∀ x ∈ a, x.length ≤ 1048576) : Ev (fun k => slices_EqualFunc_int_int_int_int.f k a b) (sameL (sameL eqI) a b) := by
  unfold slices_EqualFunc_int_int_int_int.f
  by_cases hl : a.length = b.length
  · exact ev_pos hl (slices_EqualFunc_at a b hx hl (a.length + 1) 0 (by omega) (by omega))
  · exact ev_neg hl (ev_some (sameL_len (sameL eqI) a b hl).symm)
def skSame (c s mn mx : Int) (h r : List Int) (R : List (List Int)) (c' s' mn' mx' : Int) (h' r' : List Int) (R' : List (List Int)) : Bool :=
  decide (c = c') && (decide (s = s') && (decide (mn = mn') && (decide (mx = mx') && (sameL eqI h h' && (sameL eqI r r' && sameL (sameL eqI) R R')))))
theorem impl_sketchSame_ev (c s mn mx : Int) (h r : List Int) (R : List (List Int)) (c' s' mn' mx' : Int) (h' r' : List Int) (R' : List (List Int)) (hh : h.length ≤ 1048576) (hr : r.length ≤ 1048576) (_hR : R.length ≤ 1048576) (hx : ∀ x ∈ R, x.length ≤ 1048576) :
    Ev (fun k => impl_SketchSame.f k c s mn mx h r R c' s' mn' mx' h' r' R') (skSame c s mn mx h r R c' s' mn' mx' h' r' R') := by
  unfold impl_SketchSame.f skSame
  by_cases e1 : c = c'
  · by_cases e2 : s = s'
    · by_cases e3 : mn = mn'
      · by_cases e4 : mx = mx'
        · refine ev_pos e1 (ev_pos e2 (ev_pos e3 (ev_pos e4 (Ev.bind (slices_Equal_ev _ _ hh) ?_))))
          rw [decide_eq_true e1, decide_eq_true e2, decide_eq_true e3, decide_eq_true e4]
          simp only [Bool.true_and]
          cases f1 : sameL eqI h h' with
          | false => exact ev_neg (by decide) (ev_some (by simp))
          | true =>
            refine ev_pos rfl (Ev.bind (slices_Equal_ev _ _ hr) ?_)
            simp only [Bool.true_and]
            cases f2 : sameL eqI r r' with
            | false => exact ev_neg (by decide) (ev_some (by simp))
            | true =>
              refine ev_pos rfl ?_
              simp only [Bool.true_and]
              exact Ev.bind (slices_EqualFunc_ev R R' hx) (ev_some rfl)
        · exact ev_pos e1 (ev_pos e2 (ev_pos e3 (ev_neg e4 (ev_some (by simp [e4])))))
      · exact ev_pos e1 (ev_pos e2 (ev_neg e3 (ev_some (by simp [e3]))))
    · exact ev_pos e1 (ev_neg e2 (ev_some (by simp [e2])))
  · exact ev_neg e1 (ev_some (by simp [e1]))
theorem zip_getD (f : Int → Int → Int) : ∀ (xs ys : List Int) (i : Nat), i < xs.length → i < ys.length → (List.zipWith f xs ys).getD i 0 = f (xs.getD i 0) (ys.getD i 0) := by
  intro xs ys i h1 h2
  simp only [List.getD_eq_getElem?_getD]
  rw [List.getElem?_eq_getElem h1, List.getElem?_eq_getElem h2, List.getElem?_eq_getElem (by simp; omega)]
  simp
theorem mx_hi (a b : Int) : mx a b = hi2 a b := by
  unfold mx hi2
  repeat' split
  all_goals omega
theorem impl_merge_ev {a b : Su} (ha : a.Ok) (hb : b.Ok) : Ev (fun k => impl_Merge.f k a.c a.s a.mn a.mx a.h a.r [a.p, a.q] b.c b.s b.mn b.mx b.h b.r [b.p, b.q]) (suOut (Su.mrg a b) true) := by
  obtain ⟨b1, b2, b3, b4⟩ := su_lens ha
  have G : impl_Merge.G a.c a.s a.h a.r [a.p, a.q] b.c b.s b.h b.r [b.p, b.q] := by
    have hz : ∀ (xs ys : List Int) (n : Nat) (z z' : Prop), LOk xs n 1000000000 z → LOk ys n 1000000000 z' → ∀ i, i < n → impl_Add.f (xs.getD i 0) (ys.getD i 0) = some ((List.zipWith sadd xs ys).getD i 0) := by
      intro xs ys n z z' h1 h2 i hi
      rw [zip_getD _ _ _ _ (by rw [h1.1]; exact hi) (by rw [h2.1]; exact hi)]
      exact impl_add_is (lok_getD h1 hi) (lok_getD h2 hi)
    refine ⟨⟨ha.hh.1, ha.hr.1, rfl, hb.hh.1, hb.hr.1, rfl⟩, impl_add_is ha.hc hb.hc, impl_add_is ha.hs hb.hs, hz _ _ _ _ _ ha.hh hb.hh, fun i hi => ?_, fun i hi => ?_⟩
    · rw [zip_getD _ _ _ _ (by rw [ha.hr.1]; exact hi) (by rw [hb.hr.1]; exact hi)]
      exact mx_hi _ _
    · match i, hi with
      | 0, _ => exact ⟨by show (List.zipWith sadd a.p b.p).length = 4; simp [ha.hp.1, hb.hp.1], ha.hp.1, hb.hp.1, hz _ _ _ _ _ ha.hp hb.hp⟩
      | 1, _ => exact ⟨by show (List.zipWith sadd a.q b.q).length = 4; simp [ha.hq.1, hb.hq.1], ha.hq.1, hb.hq.1, hz _ _ _ _ _ ha.hq hb.hq⟩
  have ea := impl_sketchOk_ev a.c a.s a.mn a.mx a.h a.r [a.p, a.q]
  have eb := impl_sketchOk_ev b.c b.s b.mn b.mx b.h b.r [b.p, b.q]
  rw [skOk_true.2 (su_skOk ha)] at ea
  rw [skOk_true.2 (su_skOk hb)] at eb
  unfold impl_Merge.f
  refine Ev.bind ea (ev_pos (by trivial) (Ev.bind eb (ev_pos (by trivial) (Ev.bind (impl_copy_ev a.c a.s a.mn a.mx a.h a.r [a.p, a.q] b1 b2 b3 b4) (ev_pos ⟨⟨rfl, rfl, rfl, rfl, rfl, rfl, rfl⟩, G⟩ (ev_some ?_))))))
  have e1 : impl_Merge.lo a.c a.mn b.c b.mn = if a.c = 0 then b.mn else if b.c = 0 then a.mn else lo2 a.mn b.mn := by
    have := Su.mn0 ha
    have := Su.mn0 hb
    have := ha.hc
    have := hb.hc
    unfold impl_Merge.lo lo2
    repeat' split
    all_goals omega
  rw [e1, mx_hi]
  rfl
theorem spec_sum_at (xs ys : List Int) (n : Nat) (z z' : Prop) (h1 : LOk xs n 1000000000 z) (h2 : LOk ys n 1000000000 z') (hn : n ≤ 1048576) (d : Nat) : ∀ i : Nat, i + d = n →
    Ev (fun k => spec_l3Sum.l0 k xs ys ((List.zipWith sadd xs ys).take i) (i : Int)) (List.zipWith sadd xs ys) := by
  have l1 := h1.1
  have l2 := h2.1
  have lz : (List.zipWith sadd xs ys).length = n := by simp [l1, l2]
  induction d with
  | zero =>
    intro i hi
    refine Ev.step (fun _ => rfl) ?_
    simp only [spec_l3Sum.l0]
    exact ev_neg (by omega) (ev_some (by rw [List.take_of_length_le (by omega)]))
  | succ d ih =>
    intro i hi
    refine Ev.step (fun _ => rfl) ?_
    simp only [spec_l3Sum.l0]
    have hlt : i < n := by omega
    rw [rd_nat, rd_nat, wsucc (by omega)]
    refine ev_pos (by omega) (ev_pos (by omega) (ev_pos (by omega) (ev_bind0 (spec_add_is (lok_getD h1 hlt) (lok_getD h2 hlt)) (ev_pos (by rw [List.length_take]; omega) ?_))))
    have e : (List.zipWith sadd xs ys).take i ++ [sadd (xs.getD i 0) (ys.getD i 0)] = (List.zipWith sadd xs ys).take (i + 1) := by
      rw [List.take_succ_eq_append_getElem (by omega), ← zip_getD sadd xs ys i (by omega) (by omega), List.getD_eq_getElem?_getD, List.getElem?_eq_getElem (by omega)]
      rfl
    rw [e]
    exact ih (i + 1) (by omega)
theorem spec_sum_ev (xs ys : List Int) (n : Nat) (z z' : Prop) (h1 : LOk xs n 1000000000 z) (h2 : LOk ys n 1000000000 z') (hn : n ≤ 1048576) : Ev (fun k => spec_l3Sum.f k xs ys) (List.zipWith sadd xs ys) := by
  unfold spec_l3Sum.f
  exact spec_sum_at xs ys n z z' h1 h2 hn n 0 (by omega)
theorem spec_max_is (x y : Int) : spec_l1Max.f x y = some (hi2 x y) := by
  unfold spec_l1Max.f hi2
  split <;> rfl
theorem spec_min_is (x y : Int) : spec_l1Min.f x y = some (lo2 x y) := by
  unfold spec_l1Min.f lo2
  split <;> rfl
theorem spec_l3Merge_ev {a b : Su} (ha : a.Ok) (hb : b.Ok) : Ev (fun k => spec_l3Merge.f k a.c a.s a.mn a.mx a.h a.r [a.p, a.q] b.c b.s b.mn b.mx b.h b.r [b.p, b.q])
    (sadd a.c b.c, sadd a.s b.s, (if a.c = 0 then b.mn else if b.c = 0 then a.mn else lo2 a.mn b.mn), hi2 a.mx b.mx, List.zipWith sadd a.h b.h, List.zipWith hi2 a.r b.r, [List.zipWith sadd a.p b.p, List.zipWith sadd a.q b.q]) := by
  have l1 := ha.hh.1
  have l2 := hb.hh.1
  have l3 := ha.hr.1
  have l4 := hb.hr.1
  have l5 := ha.hp.1
  have l6 := hb.hp.1
  have l7 := ha.hq.1
  have l8 := hb.hq.1
  unfold spec_l3Merge.f
  refine ev_bind0 (spec_add_is ha.hc hb.hc) (ev_bind0 (spec_add_is ha.hs hb.hs) (ev_bind0 (spec_min_is _ _) (ev_bind0 (spec_max_is _ _) (Ev.bind (spec_sum_ev _ _ 8 _ _ ha.hh hb.hh (by omega)) (Ev.bind (a := List.zipWith sadd a.p b.p) (spec_sum_ev a.p b.p 4 _ _ ha.hp hb.hp (by omega)) (Ev.bind (a := List.zipWith sadd a.q b.q) (spec_sum_ev a.q b.q 4 _ _ ha.hq hb.hq (by omega)) (ev_pos ?_ (ev_some ?_))))))))
  · refine ⟨⟨l1, l3, rfl, l2, l4, rfl⟩, ⟨by rw [List.length_zipWith]; omega, by rw [List.length_zipWith]; omega, by rw [List.length_zipWith]; omega⟩, by rw [List.length_zipWith]; omega, fun i hi => ?_⟩
    rw [spec_max_is, zip_getD hi2 _ _ i (by omega) (by omega)]
  · have m1 := Su.mn0 ha
    have m2 := Su.mn0 hb
    have e : spec_l3Merge.lo a.c a.mn b.c b.mn (lo2 a.mn b.mn) = (if a.c = 0 then b.mn else if b.c = 0 then a.mn else lo2 a.mn b.mn) := by
      unfold spec_l3Merge.lo
      by_cases e1 : a.c = 0
      · by_cases e2 : b.c = 0
        · rw [if_pos e2, if_pos e1, m1 e1, m2 e2]
        · rw [if_neg e2, if_pos e1, if_pos e1]
      · rw [if_neg e1, if_neg e1]
    rw [e]
theorem spec_merge_ev {a b : Su} (ha : a.Ok) (hb : b.Ok) : Ev (fun k => spec_Merge.f k a.c a.s a.mn a.mx a.h a.r [a.p, a.q] b.c b.s b.mn b.mx b.h b.r [b.p, b.q]) (suOut (Su.mrg a b) true) := by
  have ea := spec_sketchOk_ev a.c a.s a.mn a.mx a.h a.r [a.p, a.q]
  have eb := spec_sketchOk_ev b.c b.s b.mn b.mx b.h b.r [b.p, b.q]
  rw [skOk_true.2 (su_skOk ha)] at ea
  rw [skOk_true.2 (su_skOk hb)] at eb
  unfold spec_Merge.f
  exact Ev.bind ea (ev_pos (by trivial) (Ev.bind eb (ev_pos (by trivial) (Ev.bind (spec_l3Merge_ev ha hb) (ev_some rfl)))))
noncomputable def mrgV (c s lo hi : Int) (h r : List Int) (R : List (List Int)) (c' s' lo' hi' : Int) (h' r' : List Int) (R' : List (List Int)) : Int × Int × Int × Int × List Int × List Int × List (List Int) × Bool :=
  if skOk c s lo hi h r R = true ∧ skOk c' s' lo' hi' h' r' R' = true then suOut (Su.mrg ⟨c, s, lo, hi, h, r, rd_L1 R 0, rd_L1 R 1⟩ ⟨c', s', lo', hi', h', r', rd_L1 R' 0, rd_L1 R' 1⟩) true else (0, 0, 0, 0, [], [], [], false)
theorem impl_mrg_ev (c s lo hi : Int) (h r : List Int) (R : List (List Int)) (c' s' lo' hi' : Int) (h' r' : List Int) (R' : List (List Int)) : Ev (fun k => impl_Merge.f k c s lo hi h r R c' s' lo' hi' h' r' R') (mrgV c s lo hi h r R c' s' lo' hi' h' r' R') := by
  have ea := impl_sketchOk_ev c s lo hi h r R
  have eb := impl_sketchOk_ev c' s' lo' hi' h' r' R'
  unfold mrgV
  cases oa : skOk c s lo hi h r R with
  | false =>
    rw [oa] at ea
    rw [if_neg (by simp)]
    unfold impl_Merge.f
    exact Ev.bind ea (ev_neg (by simp) (ev_some rfl))
  | true =>
    cases ob : skOk c' s' lo' hi' h' r' R' with
    | false =>
      rw [oa] at ea
      rw [ob] at eb
      rw [if_neg (by simp)]
      unfold impl_Merge.f
      exact Ev.bind ea (ev_pos (by trivial) (Ev.bind eb (ev_neg (by simp) (ev_some rfl))))
    | true =>
      have ha := skOk_true.1 oa
      have hb := skOk_true.1 ob
      obtain ⟨p, q, rfl⟩ := two_rows ha.2.2.2.2.2.1
      obtain ⟨p', q', rfl⟩ := two_rows hb.2.2.2.2.2.1
      rw [if_pos ⟨rfl, rfl⟩]
      exact impl_merge_ev (a := ⟨c, s, lo, hi, h, r, p, q⟩) (b := ⟨c', s', lo', hi', h', r', p', q'⟩) (skOk_su ha) (skOk_su hb)
theorem spec_mrg_ev (c s lo hi : Int) (h r : List Int) (R : List (List Int)) (c' s' lo' hi' : Int) (h' r' : List Int) (R' : List (List Int)) : Ev (fun k => spec_Merge.f k c s lo hi h r R c' s' lo' hi' h' r' R') (mrgV c s lo hi h r R c' s' lo' hi' h' r' R') := by
  have ea := spec_sketchOk_ev c s lo hi h r R
  have eb := spec_sketchOk_ev c' s' lo' hi' h' r' R'
  unfold mrgV
  cases oa : skOk c s lo hi h r R with
  | false =>
    rw [oa] at ea
    rw [if_neg (by simp)]
    unfold spec_Merge.f
    exact Ev.bind ea (ev_neg (by simp) (ev_some rfl))
  | true =>
    cases ob : skOk c' s' lo' hi' h' r' R' with
    | false =>
      rw [oa] at ea
      rw [ob] at eb
      rw [if_neg (by simp)]
      unfold spec_Merge.f
      exact Ev.bind ea (ev_pos (by trivial) (Ev.bind eb (ev_neg (by simp) (ev_some rfl))))
    | true =>
      have ha := skOk_true.1 oa
      have hb := skOk_true.1 ob
      obtain ⟨p, q, rfl⟩ := two_rows ha.2.2.2.2.2.1
      obtain ⟨p', q', rfl⟩ := two_rows hb.2.2.2.2.2.1
      rw [if_pos ⟨rfl, rfl⟩]
      exact spec_merge_ev (a := ⟨c, s, lo, hi, h, r, p, q⟩) (b := ⟨c', s', lo', hi', h', r', p', q'⟩) (skOk_su ha) (skOk_su hb)
theorem eqI_self (l : List Int) : sameL eqI l l = true := by
  induction l with
  | nil => rfl
  | cons x xs ih => simp [sameL, eqI, ih]
theorem eqII_self (l : List (List Int)) : sameL (sameL eqI) l l = true := by
  induction l with
  | nil => rfl
  | cons x xs ih => simp [sameL, eqI_self, ih]
theorem impl_same_su {a : Su} (ha : a.Ok) : Ev (fun k => impl_SketchSame.f k a.c a.s a.mn a.mx a.h a.r [a.p, a.q] a.c a.s a.mn a.mx a.h a.r [a.p, a.q]) true := by
  obtain ⟨b1, b2, b3, b4⟩ := su_lens ha
  have := impl_sketchSame_ev a.c a.s a.mn a.mx a.h a.r [a.p, a.q] a.c a.s a.mn a.mx a.h a.r [a.p, a.q] b1 b2 b3 b4
  have e : skSame a.c a.s a.mn a.mx a.h a.r [a.p, a.q] a.c a.s a.mn a.mx a.h a.r [a.p, a.q] = true := by
    simp [skSame, eqI_self, eqII_self]
  rwa [e] at this
theorem drawMerge_ev (l : List Int) (hl : l.length ≤ 281474976702464) :
    ∃ (c s mn mx : Int) (h g : List Int) (R : List (List Int)) (c' s' mn' mx' : Int) (h' g' : List Int) (R' : List (List Int)), Ev (fun k => spec_DrawMerge.f k l) (c, s, mn, mx, h, g, R, c', s', mn', mx', h', g', R') ∧ h.length ≤ 9 ∧ g.length ≤ 9 ∧ R.length ≤ 2 ∧ (∀ x ∈ R, x.length ≤ 9) := by
  obtain ⟨s0, hs0⟩ := l1New_ev l
  obtain ⟨c, s, mn, mx, h, g, R, q1, s1, h1, b1, b2, b3, b4, hq1⟩ := l3Draw_ev l hl 0 (by omega) s0
  obtain ⟨c', s', mn', mx', h', g', R', q2, s2, h2, d1, d2, d3, d4, hq2⟩ := l3Draw_ev l hl q1 hq1 s1
  obtain ⟨o, q3, s3, h3, hq3⟩ := once_at l hl q2 hq2 s2 4 (by omega) (by omega)
  cases o with
  | false =>
    refine ⟨c, s, mn, mx, h, g, R, c', s', mn', mx', h', g', R', ?_, b1, b2, b3, b4⟩
    unfold spec_DrawMerge.f spec_l3Two.f
    exact Ev.bind (Ev.bind hs0 (Ev.bind h1 (Ev.bind h2 (ev_bind0 h3 (ev_neg (by simp) (ev_some rfl)))))) (ev_some rfl)
  | true =>
    have hc := spec_copy_ev c s mn mx h g R (by omega) (by omega) (by omega) (fun x hx => Nat.le_trans (b4 x hx) (by omega))
    refine ⟨c, s, mn, mx, h, g, R, c, s, mn, mx, h, g, R, ?_, b1, b2, b3, b4⟩
    unfold spec_DrawMerge.f spec_l3Two.f
    exact Ev.bind (Ev.bind hs0 (Ev.bind h1 (Ev.bind h2 (ev_bind0 h3 (ev_pos rfl (Ev.bind hc (ev_some rfl))))))) (ev_some rfl)
theorem mrgV_su {a b : Su} (ha : a.Ok) (hb : b.Ok) : mrgV a.c a.s a.mn a.mx a.h a.r [a.p, a.q] b.c b.s b.mn b.mx b.h b.r [b.p, b.q] = suOut (Su.mrg a b) true := by
  unfold mrgV
  rw [if_pos ⟨skOk_true.2 (su_skOk ha), skOk_true.2 (su_skOk hb)⟩]
  rfl
theorem mrgV_no1 {c s lo hi : Int} {h r : List Int} {R : List (List Int)} {c' s' lo' hi' : Int} {h' r' : List Int} {R' : List (List Int)} (n : ¬ skOk c s lo hi h r R = true) : mrgV c s lo hi h r R c' s' lo' hi' h' r' R' = (0, 0, 0, 0, [], [], [], false) := by
  unfold mrgV
  rw [if_neg (fun q => n q.1)]
theorem mrgV_no2 {c s lo hi : Int} {h r : List Int} {R : List (List Int)} {c' s' lo' hi' : Int} {h' r' : List Int} {R' : List (List Int)} (n : ¬ skOk c' s' lo' hi' h' r' R' = true) : mrgV c s lo hi h r R c' s' lo' hi' h' r' R' = (0, 0, 0, 0, [], [], [], false) := by
  unfold mrgV
  rw [if_neg (fun q => n q.2)]
theorem su_of_ok {c s lo hi : Int} {h r : List Int} {R : List (List Int)} (o : skOk c s lo hi h r R = true) : ∃ a : Su, a.Ok ∧ a.c = c ∧ a.s = s ∧ a.mn = lo ∧ a.mx = hi ∧ a.h = h ∧ a.r = r ∧ [a.p, a.q] = R := by
  have ha := skOk_true.1 o
  obtain ⟨p, q, rfl⟩ := two_rows ha.2.2.2.2.2.1
  exact ⟨⟨c, s, lo, hi, h, r, p, q⟩, skOk_su ha, rfl, rfl, rfl, rfl, rfl, rfl, rfl⟩
theorem zero_bad : ¬ skOk 0 0 0 0 [] [] [] = true := fun o => by
  have := (skOk_true.1 o).2.2.2.2.2.1
  simp at this
theorem specM_callD (k : Nat) {w : World} {x y z x' y' z' : Sl} {h r h' r' : List Int} {R R' : List (List Int)} (c s lo hi c' s' lo' hi' c1 s1 lo1 hi1 : Int) (h1 r1 : List Int) (R1 : List (List Int)) (t : Bool) (u : Rd w x y z h r R) (u' : Rd w x' y' z' h' r' R') (he : spec_Merge.f k c s lo hi h r R c' s' lo' hi' h' r' R' = some (c1, s1, lo1, hi1, h1, r1, R1, t)) :
    Calls Try.prog 18 #[.agg #[.int .i64 c, .int .i64 s, .int .i64 lo, .int .i64 hi, .slice x.A x.n x.c, .slice y.A y.n y.c, .slice z.A z.n z.c], .agg #[.int .i64 c', .int .i64 s', .int .i64 lo', .int .i64 hi', .slice x'.A x'.n x'.c, .slice y'.A y'.n y'.c, .slice z'.A z'.n z'.c]] w fun e w' => ∃ (x1 y1 z1 : Sl) (a b : Nat), e = .returned (.tuple #[.agg #[.int .i64 c1, .int .i64 s1, .int .i64 lo1, .int .i64 hi1, .slice x1.A x1.n x1.c, .slice y1.A y1.n y1.c, .slice z1.A z1.n z1.c], .bool t]) ∧ Rk w' a b x1 y1 z1 h1 r1 R1 ∧ Made w w' a b ∧ Below w.heap.size w w' := by
  rw [u.e4, u.e5, u.e6, u'.e4, u'.e5, u'.e6]
  refine (spec_Merge.calls k c s lo hi _ _ h _ _ r _ _ R c' s' lo' hi' _ _ h' _ _ r' _ _ R' c1 s1 lo1 hi1 h1 r1 R1 t w u.C4 u.l4 u.C5 u.l5 u.C6 u.l6 u'.C4 u'.l4 u'.C5 u'.l5 u'.C6 u'.l6 he).mono ?_
  rintro e w' ⟨v4, v5, v6, rfl, h4, h5, h6, hb⟩
  obtain ⟨x1, y1, z1, rfl, rfl, rfl, hs⟩ := Sk.of h4 h5 h6 (fun _ hk => hk) (fun _ hk => hk)
  exact ⟨x1, y1, z1, _, _, rfl, hs.rk, ⟨Nat.le_refl _, hb.size, Nat.le_refl _⟩, hb⟩
theorem big_callD {w : World} {v : Sl} {l : List Int} {t : Bool} (u : Bd w v l) (he : laws_big.f l = some t) :
    Calls Try.prog 30 #[.slice v.A v.n v.c] w fun e w' => e = .returned (.bool t) ∧ Below w.heap.size w w' := by
  rw [u.e]
  refine (laws_big.calls _ _ _ t w u.C u.le he).mono ?_
  rintro e w' ⟨rfl, hb⟩
  exact ⟨rfl, hb.below⟩
theorem tail_callD {w : World} {v : Sl} {l t : List Int} (u : Bd w v l) (he : laws_tail.f l = some t) :
    Calls Try.prog 32 #[.slice v.A v.n v.c] w fun e w' => ∃ (v1 : Sl), e = .returned (.slice v1.A v1.n v1.c) ∧ Bd w' v1 t ∧ Below w.heap.size w w' := by
  rw [u.e]
  refine (laws_tail.calls (fun k => k < w.heap.size) v.A v.c l t w (Kd.V_mk u.le (Kd.C_F (Kd.heap_int .u8) u.C)) he).mono ?_
  rintro e w' ⟨v0, rfl, hv, hb⟩
  obtain ⟨A, c, rfl⟩ := Kd.V_slice hv
  obtain ⟨h1, h2, h3⟩ := Kd.V_reads' hv
  exact ⟨⟨A, t.length, c⟩, rfl, ⟨rfl, h2, h3⟩, hb⟩
theorem new_callD {w : World} : Calls Try.prog 33 #[] w fun e w' => ∃ (x1 y1 z1 : Sl) (a b : Nat), e = .returned (.agg #[.int .i64 0, .int .i64 0, .int .i64 0, .int .i64 0, .slice x1.A x1.n x1.c, .slice y1.A y1.n y1.c, .slice z1.A z1.n z1.c]) ∧ Sk w' a b x1 y1 z1 (List.replicate 8 0) (List.replicate 8 0) [List.replicate 4 0, List.replicate 4 0] ∧ Made w w' a b ∧ Below w.heap.size w w' := by
  refine (impl_SketchNew.calls 0 0 0 0 _ _ _ w rfl).mono ?_
  rintro e w' ⟨v4, v5, v6, rfl, h4, h5, h6, hb⟩
  obtain ⟨x1, y1, z1, rfl, rfl, rfl, hs⟩ := Sk.of h4 h5 h6 (fun _ hk => hk) (fun _ hk => hk)
  exact ⟨x1, y1, z1, _, _, rfl, hs, ⟨Nat.le_refl _, hb.size, Nat.le_refl _⟩, hb⟩
theorem same_callD (k : Nat) {w : World} {x y z x' y' z' : Sl} {h r h' r' : List Int} {R R' : List (List Int)} (c s lo hi c' s' lo' hi' : Int) (t : Bool) (u : Rd w x y z h r R) (u' : Rd w x' y' z' h' r' R') (he : impl_SketchSame.f k c s lo hi h r R c' s' lo' hi' h' r' R' = some t) :
    Calls Try.prog 34 #[.agg #[.int .i64 c, .int .i64 s, .int .i64 lo, .int .i64 hi, .slice x.A x.n x.c, .slice y.A y.n y.c, .slice z.A z.n z.c], .agg #[.int .i64 c', .int .i64 s', .int .i64 lo', .int .i64 hi', .slice x'.A x'.n x'.c, .slice y'.A y'.n y'.c, .slice z'.A z'.n z'.c]] w fun e w' => e = .returned (.bool t) ∧ Below w.heap.size w w' := by
  rw [u.e4, u.e5, u.e6, u'.e4, u'.e5, u'.e6]
  exact impl_SketchSame.calls k c s lo hi _ _ h _ _ r _ _ R c' s' lo' hi' _ _ h' _ _ r' _ _ R' t w u.C4 u.l4 u.C5 u.l5 u.C6 u.l6 u'.C4 u'.l4 u'.C5 u'.l5 u'.C6 u'.l6 he
theorem ok_callD (k : Nat) {w : World} {x y z : Sl} {h r : List Int} {R : List (List Int)} (c s lo hi : Int) (t : Bool) (u : Rd w x y z h r R) (he : impl_SketchOk.f k c s lo hi h r R = some t) :
    Calls Try.prog 35 #[.agg #[.int .i64 c, .int .i64 s, .int .i64 lo, .int .i64 hi, .slice x.A x.n x.c, .slice y.A y.n y.c, .slice z.A z.n z.c]] w fun e w' => e = .returned (.bool t) ∧ Below w.heap.size w w' := by
  rw [u.e4, u.e5, u.e6]
  exact impl_SketchOk.calls k c s lo hi _ _ h _ _ r _ _ R t w u.C4 u.l4 u.C5 u.l5 u.C6 u.l6 he
structure Dw (k : Nat) (l L : List Int) (c s lo hi : Int) (h r : List Int) (R : List (List Int)) (c' s' lo' hi' : Int) (h' r' : List Int) (R' : List (List Int)) (c2 s2 lo2 hi2 : Int) (h2 r2 : List Int) (R2 : List (List Int)) (c3 s3 lo3 hi3 : Int) (h3 r3 : List Int) (R3 : List (List Int)) : Prop where
  B : laws_big.f l = some false
  T : laws_tail.f l = some L
  D : spec_DrawMerge.f k l = some (c, s, lo, hi, h, r, R, c', s', lo', hi', h', r', R')
  E : spec_DrawMerge.f k L = some (c2, s2, lo2, hi2, h2, r2, R2, c3, s3, lo3, hi3, h3, r3, R3)
structure Gd (k : Nat) (g : Bool) (c s lo hi c' s' lo' hi' c2 s2 lo2 hi2 c1 s1 lo1 hi1 c4 s4 lo4 hi4 c5 s5 lo5 hi5 : Int) (h r h' r' h2 r2 h1 r1 h4 r4 h5 r5 : List Int) (R R' R2 R1 R4 R5 : List (List Int)) : Prop where
  EZ : impl_Merge.f k c s lo hi h r R 0 0 0 0 (List.replicate 8 0) (List.replicate 8 0) [List.replicate 4 0, List.replicate 4 0] = some (c, s, lo, hi, h, r, R, true)
  EL : impl_Merge.f k c1 s1 lo1 hi1 h1 r1 R1 c2 s2 lo2 hi2 h2 r2 R2 = some (c5, s5, lo5, hi5, h5, r5, R5, g)
  EM : impl_Merge.f k c' s' lo' hi' h' r' R' c2 s2 lo2 hi2 h2 r2 R2 = some (c4, s4, lo4, hi4, h4, r4, R4, g)
  ER : impl_Merge.f k c s lo hi h r R c4 s4 lo4 hi4 h4 r4 R4 = some (c5, s5, lo5, hi5, h5, r5, R5, g)
  SX : impl_SketchSame.f k c1 s1 lo1 hi1 h1 r1 R1 c1 s1 lo1 hi1 h1 r1 R1 = some true
  OX : impl_SketchOk.f k c1 s1 lo1 hi1 h1 r1 R1 = some true
  SA : impl_SketchSame.f k c s lo hi h r R c s lo hi h r R = some true
  SL : impl_SketchSame.f k c5 s5 lo5 hi5 h5 r5 R5 c5 s5 lo5 hi5 h5 r5 R5 = some true
set_option maxHeartbeats 32000000 in
set_option maxRecDepth 100000 in
theorem law0 (k : Nat) (A : Option Addr) (cp : Nat) (l L : List Int) (w : World) (u : Bd w ⟨A, l.length, cp⟩ l) (t g : Bool)
    (c s lo hi c' s' lo' hi' c2 s2 lo2 hi2 c3 s3 lo3 hi3 c1 s1 lo1 hi1 c4 s4 lo4 hi4 c5 s5 lo5 hi5 : Int) (h r h' r' h2 r2 h3 r3 h1 r1 h4 r4 h5 r5 : List Int) (R R' R2 R3 R1 R4 R5 : List (List Int))
    (DW : Aside0 (Dw k l L c s lo hi h r R c' s' lo' hi' h' r' R' c2 s2 lo2 hi2 h2 r2 R2 c3 s3 lo3 hi3 h3 r3 R3))
    (EA : Aside0 (impl_Merge.f k c s lo hi h r R c' s' lo' hi' h' r' R' = some (c1, s1, lo1, hi1, h1, r1, R1, t))) (EB : Aside0 (impl_Merge.f k c' s' lo' hi' h' r' R' c s lo hi h r R = some (c1, s1, lo1, hi1, h1, r1, R1, t)))
    (ES : Aside0 (spec_Merge.f k c s lo hi h r R c' s' lo' hi' h' r' R' = some (c1, s1, lo1, hi1, h1, r1, R1, t)))
    (NO : Aside0 (t = false → h1.length = 0)) (GG : Aside0 (t = true → Gd k g c s lo hi c' s' lo' hi' c2 s2 lo2 hi2 c1 s1 lo1 hi1 c4 s4 lo4 hi4 c5 s5 lo5 hi5 h r h' r' h2 r2 h1 r1 h4 r4 h5 r5 R R' R2 R1 R4 R5)) :
    Calls Try.prog 7 #[.slice A l.length cp] w fun e w' => e = .returned (.bool true) ∧ Below w.heap.size w w' := by
  have U0 := Aside0.mk u
  have HB0 := Aside0.mk (Below.refl w.heap.size w)
  clear u
  go_enter Try.func7, Try.ntmps7
  go_wp2_with fail
  refine (big_callD (U0.out.below HB0.out) DW.out.B).mono ?_
  rintro e w1 ⟨rfl, hb⟩
  have HB_1 := Aside0.mk (below_step HB0.out hb)
  have Z_2 := Aside0.mk (hb.size)
  clear HB0 hb
  go_wp2_with fail
  refine (draw_callD k c s lo hi c' s' lo' hi' h r h' r' R R' (U0.out.below HB_1.out) DW.out.D).mono ?_
  rintro e w2 ⟨x11, y11, z11, x12, y12, z12, rfl, hs, hs2, hb⟩
  have A_3 := Aside0.mk hs
  clear hs
  have B_4 := Aside0.mk hs2
  clear hs2
  have HB_5 := Aside0.mk (below_step HB_1.out hb)
  have Z_6 := Aside0.mk (hb.size)
  clear HB_1 hb
  have hal := Aside0.mk (below_alloc (Below.refl _ w2) (.cells #[.int .i64 c, .int .i64 s, .int .i64 lo, .int .i64 hi, .slice x11.A x11.n x11.c, .slice y11.A y11.n y11.c, .slice z11.A z11.n z11.c] 26))
  have A_7 := Aside0.mk (A_3.out.below hal.out)
  have B_8 := Aside0.mk (B_4.out.below hal.out)
  have HB_9 := Aside0.mk (below_step HB_5.out hal.out)
  have Z_10 := Aside0.mk (show (w2.alloc (.cells #[.int .i64 c, .int .i64 s, .int .i64 lo, .int .i64 hi, .slice x11.A x11.n x11.c, .slice y11.A y11.n y11.c, .slice z11.A z11.n z11.c] 26)).heap.size = w2.heap.size + 1 by simp)
  have ba_11 := Aside0.mk (Bx.new w2 26 #[.int .i64 c, .int .i64 s, .int .i64 lo, .int .i64 hi, .slice x11.A x11.n x11.c, .slice y11.A y11.n y11.c, .slice z11.A z11.n z11.c])
  clear A_3 B_4 HB_5 hal
  have hal := Aside0.mk (below_alloc (Below.refl _ (w2.alloc (.cells #[.int .i64 c, .int .i64 s, .int .i64 lo, .int .i64 hi, .slice x11.A x11.n x11.c, .slice y11.A y11.n y11.c, .slice z11.A z11.n z11.c] 26))) (.cells #[.int .i64 c', .int .i64 s', .int .i64 lo', .int .i64 hi', .slice x12.A x12.n x12.c, .slice y12.A y12.n y12.c, .slice z12.A z12.n z12.c] 26))
  have A_12 := Aside0.mk (A_7.out.below hal.out)
  have B_13 := Aside0.mk (B_8.out.below hal.out)
  have ba_14 := Aside0.mk (ba_11.out.below hal.out)
  have HB_15 := Aside0.mk (below_step HB_9.out hal.out)
  have Z_16 := Aside0.mk (show ((w2.alloc (.cells #[.int .i64 c, .int .i64 s, .int .i64 lo, .int .i64 hi, .slice x11.A x11.n x11.c, .slice y11.A y11.n y11.c, .slice z11.A z11.n z11.c] 26)).alloc (.cells #[.int .i64 c', .int .i64 s', .int .i64 lo', .int .i64 hi', .slice x12.A x12.n x12.c, .slice y12.A y12.n y12.c, .slice z12.A z12.n z12.c] 26)).heap.size = w2.heap.size + 1 + 1 by simp)
  have bb_17 := Aside0.mk ((show Bx ((w2.alloc (.cells #[.int .i64 c, .int .i64 s, .int .i64 lo, .int .i64 hi, .slice x11.A x11.n x11.c, .slice y11.A y11.n y11.c, .slice z11.A z11.n z11.c] 26)).alloc (.cells #[.int .i64 c', .int .i64 s', .int .i64 lo', .int .i64 hi', .slice x12.A x12.n x12.c, .slice y12.A y12.n y12.c, .slice z12.A z12.n z12.c] 26)) (w2.heap.size + 1) 26 #[.int .i64 c', .int .i64 s', .int .i64 lo', .int .i64 hi', .slice x12.A x12.n x12.c, .slice y12.A y12.n y12.c, .slice z12.A z12.n z12.c] from (show (w2.alloc (.cells #[.int .i64 c, .int .i64 s, .int .i64 lo, .int .i64 hi, .slice x11.A x11.n x11.c, .slice y11.A y11.n y11.c, .slice z11.A z11.n z11.c] 26)).heap.size = w2.heap.size + 1 by simp) ▸ Bx.new (w2.alloc (.cells #[.int .i64 c, .int .i64 s, .int .i64 lo, .int .i64 hi, .slice x11.A x11.n x11.c, .slice y11.A y11.n y11.c, .slice z11.A z11.n z11.c] 26)) 26 #[.int .i64 c', .int .i64 s', .int .i64 lo', .int .i64 hi', .slice x12.A x12.n x12.c, .slice y12.A y12.n y12.c, .slice z12.A z12.n z12.c]))
  clear A_7 B_8 ba_11 HB_9 hal
  go_wp2_with fail
  refine (tail_callD (U0.out.below HB_15.out) DW.out.T).mono ?_
  rintro e w3 ⟨v1, rfl, hs, hb⟩
  have tl_18 := Aside0.mk hs
  clear hs
  have A_19 := Aside0.mk (A_12.out.below hb)
  have B_20 := Aside0.mk (B_13.out.below hb)
  have ba_21 := Aside0.mk (ba_14.out.below hb)
  have bb_22 := Aside0.mk (bb_17.out.below hb)
  have HB_23 := Aside0.mk (below_step HB_15.out hb)
  have Z_24 := Aside0.mk (hb.size)
  clear A_12 B_13 ba_14 bb_17 HB_15 hb
  go_wp2_with fail
  refine (draw_callD k c2 s2 lo2 hi2 c3 s3 lo3 hi3 h2 r2 h3 r3 R2 R3 tl_18.out DW.out.E).mono ?_
  rintro e w4 ⟨x13, y13, z13, x14, y14, z14, rfl, hs, hs2, hb⟩
  have D_25 := Aside0.mk hs
  clear hs
  have E_26 := Aside0.mk hs2
  clear hs2
  have A_27 := Aside0.mk (A_19.out.below hb)
  have B_28 := Aside0.mk (B_20.out.below hb)
  have ba_29 := Aside0.mk (ba_21.out.below hb)
  have bb_30 := Aside0.mk (bb_22.out.below hb)
  have tl_31 := Aside0.mk (tl_18.out.below hb)
  have HB_32 := Aside0.mk (below_step HB_23.out hb)
  have Z_33 := Aside0.mk (hb.size)
  clear A_19 B_20 ba_21 bb_22 tl_18 HB_23 hb
  have hal := Aside0.mk (below_alloc (Below.refl _ w4) (.cells #[.int .i64 c2, .int .i64 s2, .int .i64 lo2, .int .i64 hi2, .slice x13.A x13.n x13.c, .slice y13.A y13.n y13.c, .slice z13.A z13.n z13.c] 26))
  have A_34 := Aside0.mk (A_27.out.below hal.out)
  have B_35 := Aside0.mk (B_28.out.below hal.out)
  have ba_36 := Aside0.mk (ba_29.out.below hal.out)
  have bb_37 := Aside0.mk (bb_30.out.below hal.out)
  have tl_38 := Aside0.mk (tl_31.out.below hal.out)
  have D_39 := Aside0.mk (D_25.out.below hal.out)
  have E_40 := Aside0.mk (E_26.out.below hal.out)
  have HB_41 := Aside0.mk (below_step HB_32.out hal.out)
  have Z_42 := Aside0.mk (show (w4.alloc (.cells #[.int .i64 c2, .int .i64 s2, .int .i64 lo2, .int .i64 hi2, .slice x13.A x13.n x13.c, .slice y13.A y13.n y13.c, .slice z13.A z13.n z13.c] 26)).heap.size = w4.heap.size + 1 by simp)
  have bd_43 := Aside0.mk (Bx.new w4 26 #[.int .i64 c2, .int .i64 s2, .int .i64 lo2, .int .i64 hi2, .slice x13.A x13.n x13.c, .slice y13.A y13.n y13.c, .slice z13.A z13.n z13.c])
  clear A_27 B_28 ba_29 bb_30 tl_31 D_25 E_26 HB_32 hal
  have hal := Aside0.mk (below_alloc (Below.refl _ (w4.alloc (.cells #[.int .i64 c2, .int .i64 s2, .int .i64 lo2, .int .i64 hi2, .slice x13.A x13.n x13.c, .slice y13.A y13.n y13.c, .slice z13.A z13.n z13.c] 26))) (.cells #[.int .i64 c3, .int .i64 s3, .int .i64 lo3, .int .i64 hi3, .slice x14.A x14.n x14.c, .slice y14.A y14.n y14.c, .slice z14.A z14.n z14.c] 26))
  have A_44 := Aside0.mk (A_34.out.below hal.out)
  have B_45 := Aside0.mk (B_35.out.below hal.out)
  have ba_46 := Aside0.mk (ba_36.out.below hal.out)
  have bb_47 := Aside0.mk (bb_37.out.below hal.out)
  have tl_48 := Aside0.mk (tl_38.out.below hal.out)
  have D_49 := Aside0.mk (D_39.out.below hal.out)
  have E_50 := Aside0.mk (E_40.out.below hal.out)
  have bd_51 := Aside0.mk (bd_43.out.below hal.out)
  have HB_52 := Aside0.mk (below_step HB_41.out hal.out)
  have Z_53 := Aside0.mk (show ((w4.alloc (.cells #[.int .i64 c2, .int .i64 s2, .int .i64 lo2, .int .i64 hi2, .slice x13.A x13.n x13.c, .slice y13.A y13.n y13.c, .slice z13.A z13.n z13.c] 26)).alloc (.cells #[.int .i64 c3, .int .i64 s3, .int .i64 lo3, .int .i64 hi3, .slice x14.A x14.n x14.c, .slice y14.A y14.n y14.c, .slice z14.A z14.n z14.c] 26)).heap.size = w4.heap.size + 1 + 1 by simp)
  have be_54 := Aside0.mk ((show Bx ((w4.alloc (.cells #[.int .i64 c2, .int .i64 s2, .int .i64 lo2, .int .i64 hi2, .slice x13.A x13.n x13.c, .slice y13.A y13.n y13.c, .slice z13.A z13.n z13.c] 26)).alloc (.cells #[.int .i64 c3, .int .i64 s3, .int .i64 lo3, .int .i64 hi3, .slice x14.A x14.n x14.c, .slice y14.A y14.n y14.c, .slice z14.A z14.n z14.c] 26)) (w4.heap.size + 1) 26 #[.int .i64 c3, .int .i64 s3, .int .i64 lo3, .int .i64 hi3, .slice x14.A x14.n x14.c, .slice y14.A y14.n y14.c, .slice z14.A z14.n z14.c] from (show (w4.alloc (.cells #[.int .i64 c2, .int .i64 s2, .int .i64 lo2, .int .i64 hi2, .slice x13.A x13.n x13.c, .slice y13.A y13.n y13.c, .slice z13.A z13.n z13.c] 26)).heap.size = w4.heap.size + 1 by simp) ▸ Bx.new (w4.alloc (.cells #[.int .i64 c2, .int .i64 s2, .int .i64 lo2, .int .i64 hi2, .slice x13.A x13.n x13.c, .slice y13.A y13.n y13.c, .slice z13.A z13.n z13.c] 26)) 26 #[.int .i64 c3, .int .i64 s3, .int .i64 lo3, .int .i64 hi3, .slice x14.A x14.n x14.c, .slice y14.A y14.n y14.c, .slice z14.A z14.n z14.c]))
  clear A_34 B_35 ba_36 bb_37 tl_38 D_39 E_40 bd_43 HB_41 hal
  clear tl_48
  clear E_50
  clear be_54
  obtain ⟨ba54c0, ba54c1, ba54c2, ba54c3, ba54c4, ba54c5, ba54c6⟩ := ba_46.out.cells
  obtain ⟨bb55c0, bb55c1, bb55c2, bb55c3, bb55c4, bb55c5, bb55c6⟩ := bb_47.out.cells
  go_wp2_with fail
  clear ba54c0 ba54c1 ba54c2 ba54c3 ba54c4 ba54c5 ba54c6 bb55c0 bb55c1 bb55c2 bb55c3 bb55c4 bb55c5 bb55c6
  refine (implM_callD k c s lo hi c' s' lo' hi' c1 s1 lo1 hi1 h1 r1 R1 t A_44.out B_45.out EA.out).mono ?_
  rintro e w5 ⟨x15, y15, z15, a15, b15, rfl, hs, hm, hb⟩
  have X_57 := Aside0.mk hs
  clear hs
  have Z_58 := Aside0.mk hm
  clear hm
  unfold Made at Z_58
  have A_59 := Aside0.mk (A_44.out.below hb)
  have B_60 := Aside0.mk (B_45.out.below hb)
  have ba_61 := Aside0.mk (ba_46.out.below hb)
  have bb_62 := Aside0.mk (bb_47.out.below hb)
  have D_63 := Aside0.mk (D_49.out.below hb)
  have bd_64 := Aside0.mk (bd_51.out.below hb)
  have HB_65 := Aside0.mk (below_step HB_52.out hb)
  have Z_66 := Aside0.mk (hb.size)
  clear A_44 B_45 ba_46 bb_47 D_49 bd_51 HB_52 hb
  have hal := Aside0.mk (below_alloc (Below.refl _ w5) (.cells #[.int .i64 c1, .int .i64 s1, .int .i64 lo1, .int .i64 hi1, .slice x15.A x15.n x15.c, .slice y15.A y15.n y15.c, .slice z15.A z15.n z15.c] 26))
  have A_67 := Aside0.mk (A_59.out.below hal.out)
  have B_68 := Aside0.mk (B_60.out.below hal.out)
  have ba_69 := Aside0.mk (ba_61.out.below hal.out)
  have bb_70 := Aside0.mk (bb_62.out.below hal.out)
  have D_71 := Aside0.mk (D_63.out.below hal.out)
  have bd_72 := Aside0.mk (bd_64.out.below hal.out)
  have X_73 := Aside0.mk (X_57.out.below hal.out)
  have HB_74 := Aside0.mk (below_step HB_65.out hal.out)
  have Z_75 := Aside0.mk (show (w5.alloc (.cells #[.int .i64 c1, .int .i64 s1, .int .i64 lo1, .int .i64 hi1, .slice x15.A x15.n x15.c, .slice y15.A y15.n y15.c, .slice z15.A z15.n z15.c] 26)).heap.size = w5.heap.size + 1 by simp)
  have bx_76 := Aside0.mk (Bx.new w5 26 #[.int .i64 c1, .int .i64 s1, .int .i64 lo1, .int .i64 hi1, .slice x15.A x15.n x15.c, .slice y15.A y15.n y15.c, .slice z15.A z15.n z15.c])
  clear A_59 B_60 ba_61 bb_62 D_63 bd_64 X_57 HB_65 hal
  obtain ⟨bb76c0, bb76c1, bb76c2, bb76c3, bb76c4, bb76c5, bb76c6⟩ := bb_70.out.cells
  obtain ⟨ba77c0, ba77c1, ba77c2, ba77c3, ba77c4, ba77c5, ba77c6⟩ := ba_69.out.cells
  go_wp2_with fail
  clear bb76c0 bb76c1 bb76c2 bb76c3 bb76c4 bb76c5 bb76c6 ba77c0 ba77c1 ba77c2 ba77c3 ba77c4 ba77c5 ba77c6
  refine (implM_callD k c' s' lo' hi' c s lo hi c1 s1 lo1 hi1 h1 r1 R1 t B_68.out A_67.out EB.out).mono ?_
  rintro e w6 ⟨x16, y16, z16, a16, b16, rfl, hs, hm, hb⟩
  have Y_79 := Aside0.mk hs
  clear hs
  have Z_80 := Aside0.mk hm
  clear hm
  unfold Made at Z_80
  have A_81 := Aside0.mk (A_67.out.below hb)
  have B_82 := Aside0.mk (B_68.out.below hb)
  have ba_83 := Aside0.mk (ba_69.out.below hb)
  have bb_84 := Aside0.mk (bb_70.out.below hb)
  have D_85 := Aside0.mk (D_71.out.below hb)
  have bd_86 := Aside0.mk (bd_72.out.below hb)
  have X_87 := Aside0.mk (X_73.out.below hb)
  have bx_88 := Aside0.mk (bx_76.out.below hb)
  have HB_89 := Aside0.mk (below_step HB_74.out hb)
  have Z_90 := Aside0.mk (hb.size)
  clear A_67 B_68 ba_69 bb_70 D_71 bd_72 X_73 bx_76 HB_74 hb
  have hal := Aside0.mk (below_alloc (Below.refl _ w6) (.cells #[.int .i64 c1, .int .i64 s1, .int .i64 lo1, .int .i64 hi1, .slice x16.A x16.n x16.c, .slice y16.A y16.n y16.c, .slice z16.A z16.n z16.c] 26))
  have A_91 := Aside0.mk (A_81.out.below hal.out)
  have B_92 := Aside0.mk (B_82.out.below hal.out)
  have ba_93 := Aside0.mk (ba_83.out.below hal.out)
  have bb_94 := Aside0.mk (bb_84.out.below hal.out)
  have D_95 := Aside0.mk (D_85.out.below hal.out)
  have bd_96 := Aside0.mk (bd_86.out.below hal.out)
  have X_97 := Aside0.mk (X_87.out.below hal.out)
  have bx_98 := Aside0.mk (bx_88.out.below hal.out)
  have Y_99 := Aside0.mk (Y_79.out.below hal.out)
  have HB_100 := Aside0.mk (below_step HB_89.out hal.out)
  have Z_101 := Aside0.mk (show (w6.alloc (.cells #[.int .i64 c1, .int .i64 s1, .int .i64 lo1, .int .i64 hi1, .slice x16.A x16.n x16.c, .slice y16.A y16.n y16.c, .slice z16.A z16.n z16.c] 26)).heap.size = w6.heap.size + 1 by simp)
  have by_102 := Aside0.mk (Bx.new w6 26 #[.int .i64 c1, .int .i64 s1, .int .i64 lo1, .int .i64 hi1, .slice x16.A x16.n x16.c, .slice y16.A y16.n y16.c, .slice z16.A z16.n z16.c])
  clear A_81 B_82 ba_83 bb_84 D_85 bd_86 X_87 bx_88 Y_79 HB_89 hal
  obtain ⟨ba102c0, ba102c1, ba102c2, ba102c3, ba102c4, ba102c5, ba102c6⟩ := ba_93.out.cells
  obtain ⟨bb103c0, bb103c1, bb103c2, bb103c3, bb103c4, bb103c5, bb103c6⟩ := bb_94.out.cells
  go_wp2_with fail
  clear ba102c0 ba102c1 ba102c2 ba102c3 ba102c4 ba102c5 ba102c6 bb103c0 bb103c1 bb103c2 bb103c3 bb103c4 bb103c5 bb103c6
  refine (specM_callD k c s lo hi c' s' lo' hi' c1 s1 lo1 hi1 h1 r1 R1 t A_91.out B_92.out ES.out).mono ?_
  rintro e w7 ⟨x17, y17, z17, a17, b17, rfl, hs, hm, hb⟩
  have W_105 := Aside0.mk hs
  clear hs
  have Z_106 := Aside0.mk hm
  clear hm
  unfold Made at Z_106
  have A_107 := Aside0.mk (A_91.out.below hb)
  have B_108 := Aside0.mk (B_92.out.below hb)
  have ba_109 := Aside0.mk (ba_93.out.below hb)
  have bb_110 := Aside0.mk (bb_94.out.below hb)
  have D_111 := Aside0.mk (D_95.out.below hb)
  have bd_112 := Aside0.mk (bd_96.out.below hb)
  have X_113 := Aside0.mk (X_97.out.below hb)
  have bx_114 := Aside0.mk (bx_98.out.below hb)
  have Y_115 := Aside0.mk (Y_99.out.below hb)
  have by_116 := Aside0.mk (by_102.out.below hb)
  have HB_117 := Aside0.mk (below_step HB_100.out hb)
  have Z_118 := Aside0.mk (hb.size)
  clear A_91 B_92 ba_93 bb_94 D_95 bd_96 X_97 bx_98 Y_99 by_102 HB_100 hb
  have hal := Aside0.mk (below_alloc (Below.refl _ w7) (.cells #[.int .i64 c1, .int .i64 s1, .int .i64 lo1, .int .i64 hi1, .slice x17.A x17.n x17.c, .slice y17.A y17.n y17.c, .slice z17.A z17.n z17.c] 26))
  have A_119 := Aside0.mk (A_107.out.below hal.out)
  have B_120 := Aside0.mk (B_108.out.below hal.out)
  have ba_121 := Aside0.mk (ba_109.out.below hal.out)
  have bb_122 := Aside0.mk (bb_110.out.below hal.out)
  have D_123 := Aside0.mk (D_111.out.below hal.out)
  have bd_124 := Aside0.mk (bd_112.out.below hal.out)
  have X_125 := Aside0.mk (X_113.out.below hal.out)
  have bx_126 := Aside0.mk (bx_114.out.below hal.out)
  have Y_127 := Aside0.mk (Y_115.out.below hal.out)
  have by_128 := Aside0.mk (by_116.out.below hal.out)
  have W_129 := Aside0.mk (W_105.out.below hal.out)
  have HB_130 := Aside0.mk (below_step HB_117.out hal.out)
  have Z_131 := Aside0.mk (show (w7.alloc (.cells #[.int .i64 c1, .int .i64 s1, .int .i64 lo1, .int .i64 hi1, .slice x17.A x17.n x17.c, .slice y17.A y17.n y17.c, .slice z17.A z17.n z17.c] 26)).heap.size = w7.heap.size + 1 by simp)
  have bw_132 := Aside0.mk (Bx.new w7 26 #[.int .i64 c1, .int .i64 s1, .int .i64 lo1, .int .i64 hi1, .slice x17.A x17.n x17.c, .slice y17.A y17.n y17.c, .slice z17.A z17.n z17.c])
  clear A_107 B_108 ba_109 bb_110 D_111 bd_112 X_113 bx_114 Y_115 by_116 W_105 HB_117 hal
  clear W_129
  clear bw_132
  cases t with
  | false =>
    have hx0 : x15.n = 0 := X_125.out.rd.e4.trans (NO.out rfl)
    obtain ⟨bx132c0, bx132c1, bx132c2, bx132c3, bx132c4, bx132c5, bx132c6⟩ := bx_126.out.cells
    go_wp2
    go_ret
    exact ⟨rfl, HB_130.out⟩
  | true =>
    obtain ⟨GD⟩ := GG
    replace GD := Aside0.mk (GD rfl)
    go_upto_region 12 with (fail)
    generalize (w7.alloc (.cells #[.int .i64 c1, .int .i64 s1, .int .i64 lo1, .int .i64 hi1, .slice x17.A x17.n x17.c, .slice y17.A y17.n y17.c, .slice z17.A z17.n z17.c] 26)) = wg at *
    go_cut [13, 14] (fun v0 v1 wc => ∃ (gbz : Nat) (x22 : Sl) (y22 : Sl) (z22 : Sl) (a22 b22 : Nat), v0 = .pointer (some ⟨gbz, 0, none⟩) ∧ v1 = .bool true ∧ Aside0 (Sk wc a22 b22 x22 y22 z22 h r R ∧ Bx wc gbz 26 #[.int .i64 c, .int .i64 s, .int .i64 lo, .int .i64 hi, .slice x22.A x22.n x22.c, .slice y22.A y22.n y22.c, .slice z22.A z22.n z22.c] ∧ Below wg.heap.size wg wc ∧ wg.heap.size ≤ gbz ∧ gbz < wc.heap.size ∧ wg.heap.size ≤ a22 ∧ a22 ≤ b22 ∧ b22 ≤ wc.heap.size))
    case first =>
      have LS := Aside0.mk (show ∀ w', Below wg.heap.size wg w' → w'.cell? ⟨w2.heap.size, 0, none⟩ = some (.int .i64 c) ∧ w'.cell? ⟨w2.heap.size, 1, none⟩ = some (.int .i64 s) ∧ w'.cell? ⟨w2.heap.size, 2, none⟩ = some (.int .i64 lo) ∧ w'.cell? ⟨w2.heap.size, 3, none⟩ = some (.int .i64 hi) ∧ w'.cell? ⟨w2.heap.size, 4, none⟩ = some (.slice x11.A x11.n x11.c) ∧ w'.cell? ⟨w2.heap.size, 5, none⟩ = some (.slice y11.A y11.n y11.c) ∧ w'.cell? ⟨w2.heap.size, 6, none⟩ = some (.slice z11.A z11.n z11.c) from fun w' F => by
        obtain ⟨baq0, baq1, baq2, baq3, baq4, baq5, baq6⟩ := (ba_121.out.below F).cells
        exact ⟨baq0, baq1, baq2, baq3, baq4, baq5, baq6⟩)
      have UA_ := Aside0.mk A_119.out
      have HQ0 := Aside0.mk (show Below wg.heap.size wg wg.drew from below_drew (Below.refl _ _))
      go_region_held3 (fun w' => w'.cell? ⟨w2.heap.size, 0, none⟩ = some (.int .i64 c) ∧ w'.cell? ⟨w2.heap.size, 1, none⟩ = some (.int .i64 s) ∧ w'.cell? ⟨w2.heap.size, 2, none⟩ = some (.int .i64 lo) ∧ w'.cell? ⟨w2.heap.size, 3, none⟩ = some (.int .i64 hi) ∧ w'.cell? ⟨w2.heap.size, 4, none⟩ = some (.slice x11.A x11.n x11.c) ∧ w'.cell? ⟨w2.heap.size, 5, none⟩ = some (.slice y11.A y11.n y11.c) ∧ w'.cell? ⟨w2.heap.size, 6, none⟩ = some (.slice z11.A z11.n z11.c)) (first | with_reducible exact FL.out _ _ _ _ _ _ _ | with_reducible exact LS.out _ HQ0.out | with_reducible exact LS.out _ (below_drew (below_alloc (Below.refl _ _) _)) | with_reducible exact LS.out _ (below_step HQ0.out (below_alloc (Below.refl _ _) _)) | with_reducible exact LS.out _ HQ1.out | with_reducible exact LS.out _ (below_step HQ1.out (below_alloc (Below.refl _ _) _)) | with_reducible exact LS.out _ HQ2.out | with_reducible exact LS.out _ (below_step HQ2.out (below_alloc (Below.refl _ _) _)) | with_reducible exact LS.out _ (below_kp (below_step HQ2.out (below_alloc (Below.refl _ _) _)) ((Bx.new wq2 26 #[.int .i64 0, .int .i64 0, .int .i64 0, .int .i64 0, .slice none 0 0, .slice none 0 0, .slice none 0 0]).fill _ _ _ _ _ _ _).2 HQ2.out.size (Nat.le_trans HQ2.out.size (sz_up _ _)))) (first | (go_at_call 33; (with_reducible refine (new_callD).mono ?_); rintro e wq1 ⟨x21, y21, z21, a21, b21, rfl, hs, hm, hb⟩; (first | ((with_reducible have hz_ := reg_new HQ0.out hb hm); obtain ⟨hq, hy, hn, hp⟩ := hz_; have Y1 := Aside0.mk hy; have HQ1 := Aside0.mk hq; have M1 := Aside0.mk hn; have HP1 := Aside0.mk hp; clear hq hy hn hp) | ((with_reducible have hz_ := reg_new0 hb hm); obtain ⟨hq, hy, hn, hp⟩ := hz_; have Y1 := Aside0.mk hy; have HQ1 := Aside0.mk hq; have M1 := Aside0.mk hn; have HP1 := Aside0.mk hp; clear hq hy hn hp) | ((with_reducible have HQ1 := Aside0.mk (below_step HQ0.out hb)); have M1 := Aside0.mk hm; have HP1 := Aside0.mk hb)); have S21 := Aside0.mk hs; clear hs hm hb) | (go_at_call 20; (with_reducible refine (implM_callD k c s lo hi 0 0 0 0 c s lo hi h r R true (by first | exact UA_.out.below HQ1.out | exact UA_.out.below (below_step HQ1.out (below_alloc (Below.refl _ _) _))) (by first | exact S21.out.rd | exact (S21.out.below (below_alloc (Below.refl _ _) _)).rd) GD.out.EZ).mono ?_); rintro e wq2 ⟨x22, y22, z22, a22, b22, rfl, hs, hm, hb⟩; (first | ((with_reducible have hz_ := reg_new HQ1.out hb hm); obtain ⟨hq, hy, hn, hp⟩ := hz_; have Y2 := Aside0.mk hy; have HQ2 := Aside0.mk hq; have M2 := Aside0.mk hn; have HP2 := Aside0.mk hp; clear hq hy hn hp) | ((with_reducible have hz_ := reg_old HQ1.out Y1.out hb hm); obtain ⟨hq, hy⟩ := hz_; have Y2 := Aside0.mk hy; have HQ2 := Aside0.mk hq; have M2 := Aside0.mk hm; have HP2 := Aside0.mk hb; clear hq hy) | ((with_reducible have HQ2 := Aside0.mk (below_step HQ1.out hb)); have M2 := Aside0.mk hm; have HP2 := Aside0.mk hb)); have Z := Aside0.mk hs; clear hs hm hb; replace S21 := Aside0.mk (S21.out.below HP2.out); (first | (obtain ⟨cz0, cz1, cz2, cz3, cz4, cz5, cz6⟩ := Y2.out.bx.cells; have cf := fun i => Bx.fz Y2.out.bx i; have FL := Aside0.mk (fun u0_ u1_ u2_ u3_ u4_ u5_ u6_ => LS.out _ (below_kp HQ2.out (Y2.out.bx.fill u0_ u1_ u2_ u3_ u4_ u5_ u6_).2 Y2.out.lo HQ2.out.size))) | skip)))
      all_goals
        refine Met.intro ?_
        go_step
        go_meet
        case rel =>
          first | (have FE := fun u0_ u1_ u2_ u3_ u4_ u5_ u6_ => reg_end_sk HQ2.out Y2.out ⟨Nat.le_trans (Nat.le_trans HQ1.out.size (Nat.le_refl _)) M2.out.1, M2.out.2⟩ Z.out (Y2.out.bx.fill u0_ u1_ u2_ u3_ u4_ u5_ u6_); refine ⟨_, x22, y22, z22, a22, b22, rfl, rfl, ⟨?_⟩⟩; exact FE (.int .i64 c) (.int .i64 s) (.int .i64 lo) (.int .i64 hi) (.slice x22.A x22.n x22.c) (.slice y22.A y22.n y22.c) (.slice z22.A z22.n z22.c)) | (have FE := reg_last_sk #[.int .i64 c, .int .i64 s, .int .i64 lo, .int .i64 hi, .slice x22.A x22.n x22.c, .slice y22.A y22.n y22.c, .slice z22.A z22.n z22.c] 26 HQ2.out ⟨Nat.le_trans (Nat.le_trans HQ1.out.size (Nat.le_refl _)) M2.out.1, M2.out.2⟩ Z.out; refine ⟨_, x22, y22, z22, a22, b22, rfl, rfl, ⟨?_⟩⟩; exact FE)
    case rest =>
    obtain ⟨gbz, x22, y22, z22, a22, b22, rfl, rfl, ⟨hs, hx, hb, hz1, hz2, hz3, hz4, hz5⟩⟩ := hcut
    generalize wc = wc233 at *
    have Z_234 := Aside0.mk hs
    clear hs
    have bz_235 := Aside0.mk hx
    clear hx
    have Z_236 := Aside0.mk hz1
    clear hz1
    have Z_237 := Aside0.mk hz2
    clear hz2
    have Z_238 := Aside0.mk hz3
    clear hz3
    have Z_239 := Aside0.mk hz4
    clear hz4
    have Z_240 := Aside0.mk hz5
    clear hz5
    have A_241 := Aside0.mk (A_119.out.below hb)
    have B_242 := Aside0.mk (B_120.out.below hb)
    have ba_243 := Aside0.mk (ba_121.out.below hb)
    have bb_244 := Aside0.mk (bb_122.out.below hb)
    have D_245 := Aside0.mk (D_123.out.below hb)
    have bd_246 := Aside0.mk (bd_124.out.below hb)
    have X_247 := Aside0.mk (X_125.out.below hb)
    have bx_248 := Aside0.mk (bx_126.out.below hb)
    have Y_249 := Aside0.mk (Y_127.out.below hb)
    have by_250 := Aside0.mk (by_128.out.below hb)
    have HB_251 := Aside0.mk (below_step HB_130.out hb)
    have Z_252 := Aside0.mk (hb.size)
    clear A_119 B_120 ba_121 bb_122 D_123 bd_124 X_125 bx_126 Y_127 by_128 HB_130 hb
    obtain ⟨bx252c0, bx252c1, bx252c2, bx252c3, bx252c4, bx252c5, bx252c6⟩ := bx_248.out.cells
    obtain ⟨by253c0, by253c1, by253c2, by253c3, by253c4, by253c5, by253c6⟩ := by_250.out.cells
    go_wp2_with fail
    clear bx252c0 bx252c1 bx252c2 bx252c3 bx252c4 bx252c5 bx252c6 by253c0 by253c1 by253c2 by253c3 by253c4 by253c5 by253c6
    refine (same_callD k c1 s1 lo1 hi1 c1 s1 lo1 hi1 true X_247.out.rd Y_249.out.rd GD.out.SX).mono ?_
    rintro e w8 ⟨rfl, hb⟩
    have A_255 := Aside0.mk (A_241.out.below hb)
    have B_256 := Aside0.mk (B_242.out.below hb)
    have ba_257 := Aside0.mk (ba_243.out.below hb)
    have bb_258 := Aside0.mk (bb_244.out.below hb)
    have D_259 := Aside0.mk (D_245.out.below hb)
    have bd_260 := Aside0.mk (bd_246.out.below hb)
    have X_261 := Aside0.mk (X_247.out.below hb)
    have bx_262 := Aside0.mk (bx_248.out.below hb)
    have Y_263 := Aside0.mk (Y_249.out.below hb)
    have by_264 := Aside0.mk (by_250.out.below hb)
    have Z_265 := Aside0.mk (Z_234.out.below hb)
    have bz_266 := Aside0.mk (bz_235.out.below hb)
    have HB_267 := Aside0.mk (below_step HB_251.out hb)
    have Z_268 := Aside0.mk (hb.size)
    clear A_241 B_242 ba_243 bb_244 D_245 bd_246 X_247 bx_248 Y_249 by_250 Z_234 bz_235 HB_251 hb
    clear Y_263
    clear by_264
    obtain ⟨bx268c0, bx268c1, bx268c2, bx268c3, bx268c4, bx268c5, bx268c6⟩ := bx_262.out.cells
    go_wp2_with fail
    clear bx268c0 bx268c1 bx268c2 bx268c3 bx268c4 bx268c5 bx268c6
    refine (ok_callD k c1 s1 lo1 hi1 true X_261.out.rd GD.out.OX).mono ?_
    rintro e w9 ⟨rfl, hb⟩
    have A_270 := Aside0.mk (A_255.out.below hb)
    have B_271 := Aside0.mk (B_256.out.below hb)
    have ba_272 := Aside0.mk (ba_257.out.below hb)
    have bb_273 := Aside0.mk (bb_258.out.below hb)
    have D_274 := Aside0.mk (D_259.out.below hb)
    have bd_275 := Aside0.mk (bd_260.out.below hb)
    have X_276 := Aside0.mk (X_261.out.below hb)
    have bx_277 := Aside0.mk (bx_262.out.below hb)
    have Z_278 := Aside0.mk (Z_265.out.below hb)
    have bz_279 := Aside0.mk (bz_266.out.below hb)
    have HB_280 := Aside0.mk (below_step HB_267.out hb)
    have Z_281 := Aside0.mk (hb.size)
    clear A_255 B_256 ba_257 bb_258 D_259 bd_260 X_261 bx_262 Z_265 bz_266 HB_267 hb
    obtain ⟨bz281c0, bz281c1, bz281c2, bz281c3, bz281c4, bz281c5, bz281c6⟩ := bz_279.out.cells
    obtain ⟨ba282c0, ba282c1, ba282c2, ba282c3, ba282c4, ba282c5, ba282c6⟩ := ba_272.out.cells
    go_wp2_with fail
    clear bz281c0 bz281c1 bz281c2 bz281c3 bz281c4 bz281c5 bz281c6 ba282c0 ba282c1 ba282c2 ba282c3 ba282c4 ba282c5 ba282c6
    refine (same_callD k c s lo hi c s lo hi true Z_278.out.rd A_270.out GD.out.SA).mono ?_
    rintro e w10 ⟨rfl, hb⟩
    have A_284 := Aside0.mk (A_270.out.below hb)
    have B_285 := Aside0.mk (B_271.out.below hb)
    have ba_286 := Aside0.mk (ba_272.out.below hb)
    have bb_287 := Aside0.mk (bb_273.out.below hb)
    have D_288 := Aside0.mk (D_274.out.below hb)
    have bd_289 := Aside0.mk (bd_275.out.below hb)
    have X_290 := Aside0.mk (X_276.out.below hb)
    have bx_291 := Aside0.mk (bx_277.out.below hb)
    have Z_292 := Aside0.mk (Z_278.out.below hb)
    have bz_293 := Aside0.mk (bz_279.out.below hb)
    have HB_294 := Aside0.mk (below_step HB_280.out hb)
    have Z_295 := Aside0.mk (hb.size)
    clear A_270 B_271 ba_272 bb_273 D_274 bd_275 X_276 bx_277 Z_278 bz_279 HB_280 hb
    clear Z_292
    clear bz_293
    obtain ⟨bx295c0, bx295c1, bx295c2, bx295c3, bx295c4, bx295c5, bx295c6⟩ := bx_291.out.cells
    obtain ⟨bd296c0, bd296c1, bd296c2, bd296c3, bd296c4, bd296c5, bd296c6⟩ := bd_289.out.cells
    go_wp2_with fail
    clear bx295c0 bx295c1 bx295c2 bx295c3 bx295c4 bx295c5 bx295c6 bd296c0 bd296c1 bd296c2 bd296c3 bd296c4 bd296c5 bd296c6
    refine (implM_callD k c1 s1 lo1 hi1 c2 s2 lo2 hi2 c5 s5 lo5 hi5 h5 r5 R5 g X_290.out.rd D_288.out GD.out.EL).mono ?_
    rintro e w11 ⟨x31, y31, z31, a31, b31, rfl, hs, hm, hb⟩
    have L_298 := Aside0.mk hs
    clear hs
    have Z_299 := Aside0.mk hm
    clear hm
    unfold Made at Z_299
    have A_300 := Aside0.mk (A_284.out.below hb)
    have B_301 := Aside0.mk (B_285.out.below hb)
    have ba_302 := Aside0.mk (ba_286.out.below hb)
    have bb_303 := Aside0.mk (bb_287.out.below hb)
    have D_304 := Aside0.mk (D_288.out.below hb)
    have bd_305 := Aside0.mk (bd_289.out.below hb)
    have X_306 := Aside0.mk (X_290.out.below hb)
    have bx_307 := Aside0.mk (bx_291.out.below hb)
    have HB_308 := Aside0.mk (below_step HB_294.out hb)
    have Z_309 := Aside0.mk (hb.size)
    clear A_284 B_285 ba_286 bb_287 D_288 bd_289 X_290 bx_291 HB_294 hb
    have hal := Aside0.mk (below_alloc (Below.refl _ w11) (.cells #[.int .i64 c5, .int .i64 s5, .int .i64 lo5, .int .i64 hi5, .slice x31.A x31.n x31.c, .slice y31.A y31.n y31.c, .slice z31.A z31.n z31.c] 26))
    have A_310 := Aside0.mk (A_300.out.below hal.out)
    have B_311 := Aside0.mk (B_301.out.below hal.out)
    have ba_312 := Aside0.mk (ba_302.out.below hal.out)
    have bb_313 := Aside0.mk (bb_303.out.below hal.out)
    have D_314 := Aside0.mk (D_304.out.below hal.out)
    have bd_315 := Aside0.mk (bd_305.out.below hal.out)
    have X_316 := Aside0.mk (X_306.out.below hal.out)
    have bx_317 := Aside0.mk (bx_307.out.below hal.out)
    have L_318 := Aside0.mk (L_298.out.below hal.out)
    have HB_319 := Aside0.mk (below_step HB_308.out hal.out)
    have Z_320 := Aside0.mk (show (w11.alloc (.cells #[.int .i64 c5, .int .i64 s5, .int .i64 lo5, .int .i64 hi5, .slice x31.A x31.n x31.c, .slice y31.A y31.n y31.c, .slice z31.A z31.n z31.c] 26)).heap.size = w11.heap.size + 1 by simp)
    have bl_321 := Aside0.mk (Bx.new w11 26 #[.int .i64 c5, .int .i64 s5, .int .i64 lo5, .int .i64 hi5, .slice x31.A x31.n x31.c, .slice y31.A y31.n y31.c, .slice z31.A z31.n z31.c])
    clear A_300 B_301 ba_302 bb_303 D_304 bd_305 X_306 bx_307 L_298 HB_308 hal
    clear X_316
    clear bx_317
    obtain ⟨bb321c0, bb321c1, bb321c2, bb321c3, bb321c4, bb321c5, bb321c6⟩ := bb_313.out.cells
    obtain ⟨bd322c0, bd322c1, bd322c2, bd322c3, bd322c4, bd322c5, bd322c6⟩ := bd_315.out.cells
    go_wp2_with fail
    clear bb321c0 bb321c1 bb321c2 bb321c3 bb321c4 bb321c5 bb321c6 bd322c0 bd322c1 bd322c2 bd322c3 bd322c4 bd322c5 bd322c6
    refine (implM_callD k c' s' lo' hi' c2 s2 lo2 hi2 c4 s4 lo4 hi4 h4 r4 R4 g B_311.out D_314.out GD.out.EM).mono ?_
    rintro e w12 ⟨x32, y32, z32, a32, b32, rfl, hs, hm, hb⟩
    have M_324 := Aside0.mk hs
    clear hs
    have Z_325 := Aside0.mk hm
    clear hm
    unfold Made at Z_325
    have A_326 := Aside0.mk (A_310.out.below hb)
    have B_327 := Aside0.mk (B_311.out.below hb)
    have ba_328 := Aside0.mk (ba_312.out.below hb)
    have bb_329 := Aside0.mk (bb_313.out.below hb)
    have D_330 := Aside0.mk (D_314.out.below hb)
    have bd_331 := Aside0.mk (bd_315.out.below hb)
    have L_332 := Aside0.mk (L_318.out.below hb)
    have bl_333 := Aside0.mk (bl_321.out.below hb)
    have HB_334 := Aside0.mk (below_step HB_319.out hb)
    have Z_335 := Aside0.mk (hb.size)
    clear A_310 B_311 ba_312 bb_313 D_314 bd_315 L_318 bl_321 HB_319 hb
    have hal := Aside0.mk (below_alloc (Below.refl _ w12) (.cells #[.int .i64 c4, .int .i64 s4, .int .i64 lo4, .int .i64 hi4, .slice x32.A x32.n x32.c, .slice y32.A y32.n y32.c, .slice z32.A z32.n z32.c] 26))
    have A_336 := Aside0.mk (A_326.out.below hal.out)
    have B_337 := Aside0.mk (B_327.out.below hal.out)
    have ba_338 := Aside0.mk (ba_328.out.below hal.out)
    have bb_339 := Aside0.mk (bb_329.out.below hal.out)
    have D_340 := Aside0.mk (D_330.out.below hal.out)
    have bd_341 := Aside0.mk (bd_331.out.below hal.out)
    have L_342 := Aside0.mk (L_332.out.below hal.out)
    have bl_343 := Aside0.mk (bl_333.out.below hal.out)
    have M_344 := Aside0.mk (M_324.out.below hal.out)
    have HB_345 := Aside0.mk (below_step HB_334.out hal.out)
    have Z_346 := Aside0.mk (show (w12.alloc (.cells #[.int .i64 c4, .int .i64 s4, .int .i64 lo4, .int .i64 hi4, .slice x32.A x32.n x32.c, .slice y32.A y32.n y32.c, .slice z32.A z32.n z32.c] 26)).heap.size = w12.heap.size + 1 by simp)
    have bm_347 := Aside0.mk (Bx.new w12 26 #[.int .i64 c4, .int .i64 s4, .int .i64 lo4, .int .i64 hi4, .slice x32.A x32.n x32.c, .slice y32.A y32.n y32.c, .slice z32.A z32.n z32.c])
    clear A_326 B_327 ba_328 bb_329 D_330 bd_331 L_332 bl_333 M_324 HB_334 hal
    clear B_337
    clear bb_339
    clear D_340
    clear bd_341
    obtain ⟨ba347c0, ba347c1, ba347c2, ba347c3, ba347c4, ba347c5, ba347c6⟩ := ba_338.out.cells
    obtain ⟨bm348c0, bm348c1, bm348c2, bm348c3, bm348c4, bm348c5, bm348c6⟩ := bm_347.out.cells
    go_wp2_with fail
    clear ba347c0 ba347c1 ba347c2 ba347c3 ba347c4 ba347c5 ba347c6 bm348c0 bm348c1 bm348c2 bm348c3 bm348c4 bm348c5 bm348c6
    refine (implM_callD k c s lo hi c4 s4 lo4 hi4 c5 s5 lo5 hi5 h5 r5 R5 g A_336.out M_344.out.rd GD.out.ER).mono ?_
    rintro e w13 ⟨x33, y33, z33, a33, b33, rfl, hs, hm, hb⟩
    have R_350 := Aside0.mk hs
    clear hs
    have Z_351 := Aside0.mk hm
    clear hm
    unfold Made at Z_351
    have A_352 := Aside0.mk (A_336.out.below hb)
    have ba_353 := Aside0.mk (ba_338.out.below hb)
    have L_354 := Aside0.mk (L_342.out.below hb)
    have bl_355 := Aside0.mk (bl_343.out.below hb)
    have M_356 := Aside0.mk (M_344.out.below hb)
    have bm_357 := Aside0.mk (bm_347.out.below hb)
    have HB_358 := Aside0.mk (below_step HB_345.out hb)
    have Z_359 := Aside0.mk (hb.size)
    clear A_336 ba_338 L_342 bl_343 M_344 bm_347 HB_345 hb
    have hal := Aside0.mk (below_alloc (Below.refl _ w13) (.cells #[.int .i64 c5, .int .i64 s5, .int .i64 lo5, .int .i64 hi5, .slice x33.A x33.n x33.c, .slice y33.A y33.n y33.c, .slice z33.A z33.n z33.c] 26))
    have A_360 := Aside0.mk (A_352.out.below hal.out)
    have ba_361 := Aside0.mk (ba_353.out.below hal.out)
    have L_362 := Aside0.mk (L_354.out.below hal.out)
    have bl_363 := Aside0.mk (bl_355.out.below hal.out)
    have M_364 := Aside0.mk (M_356.out.below hal.out)
    have bm_365 := Aside0.mk (bm_357.out.below hal.out)
    have R_366 := Aside0.mk (R_350.out.below hal.out)
    have HB_367 := Aside0.mk (below_step HB_358.out hal.out)
    have Z_368 := Aside0.mk (show (w13.alloc (.cells #[.int .i64 c5, .int .i64 s5, .int .i64 lo5, .int .i64 hi5, .slice x33.A x33.n x33.c, .slice y33.A y33.n y33.c, .slice z33.A z33.n z33.c] 26)).heap.size = w13.heap.size + 1 by simp)
    have br_369 := Aside0.mk (Bx.new w13 26 #[.int .i64 c5, .int .i64 s5, .int .i64 lo5, .int .i64 hi5, .slice x33.A x33.n x33.c, .slice y33.A y33.n y33.c, .slice z33.A z33.n z33.c])
    clear A_352 ba_353 L_354 bl_355 M_356 bm_357 R_350 HB_358 hal
    cases g with
    | false =>
      go_wp2
      go_ret
      exact ⟨rfl, HB_367.out⟩
    | true =>
      obtain ⟨bl369c0, bl369c1, bl369c2, bl369c3, bl369c4, bl369c5, bl369c6⟩ := bl_363.out.cells
      obtain ⟨br370c0, br370c1, br370c2, br370c3, br370c4, br370c5, br370c6⟩ := br_369.out.cells
      go_wp2_with fail
      clear bl369c0 bl369c1 bl369c2 bl369c3 bl369c4 bl369c5 bl369c6 br370c0 br370c1 br370c2 br370c3 br370c4 br370c5 br370c6
      refine (same_callD k c5 s5 lo5 hi5 c5 s5 lo5 hi5 true L_362.out.rd R_366.out.rd GD.out.SL).mono ?_
      rintro e w14 ⟨rfl, hb⟩
      have A_372 := Aside0.mk (A_360.out.below hb)
      have ba_373 := Aside0.mk (ba_361.out.below hb)
      have L_374 := Aside0.mk (L_362.out.below hb)
      have bl_375 := Aside0.mk (bl_363.out.below hb)
      have M_376 := Aside0.mk (M_364.out.below hb)
      have bm_377 := Aside0.mk (bm_365.out.below hb)
      have R_378 := Aside0.mk (R_366.out.below hb)
      have br_379 := Aside0.mk (br_369.out.below hb)
      have HB_380 := Aside0.mk (below_step HB_367.out hb)
      have Z_381 := Aside0.mk (hb.size)
      clear A_360 ba_361 L_362 bl_363 M_364 bm_365 R_366 br_369 HB_367 hb
      go_wp2
      go_ret
      exact ⟨rfl, HB_380.out⟩

set_option maxHeartbeats 8000000 in
theorem law2 (A : Option Addr) (cp : Nat) (l : List Int) (w : World) (u : Bd w ⟨A, l.length, cp⟩ l) (BG : laws_big.f l = some true) :
    Calls Try.prog 7 #[.slice A l.length cp] w fun e w' => e = .returned (.bool true) ∧ Below w.heap.size w w' := by
  have U0 := Aside0.mk u
  have HB0 := Aside0.mk (Below.refl w.heap.size w)
  clear u
  go_enter Try.func7, Try.ntmps7
  go_wp2_with fail
  refine (big_callD (U0.out.below HB0.out) BG).mono ?_
  rintro e w1 ⟨rfl, hb⟩
  have HB_1 := Aside0.mk (below_step HB0.out hb)
  have Z_2 := Aside0.mk (hb.size)
  clear HB0 hb
  go_wp2
  go_ret
  exact ⟨rfl, HB_1.out⟩


theorem law (A : Option Addr) (cp : Nat) (l : List Int) (w : World) (C : (Kd.int .u8).C w A l.length l) (lc : l.length ≤ cp) (hg : l.length ≤ 9223372036854775807 ∧ ∀ x ∈ l, (0 ≤ x ∧ x ≤ 255)) :
    Calls Try.prog 7 #[.slice A l.length cp] w fun e w' => e = .returned (.bool true) ∧ Below w.heap.size w w' := by
  have u : Bd w ⟨A, l.length, cp⟩ l := ⟨rfl, lc, C⟩
  by_cases hb : (l.length : Int) > 1048576
  · exact law2 A cp l w u (by unfold laws_big.f; rw [decide_eq_true hb])
  have hB : laws_big.f l = some false := by unfold laws_big.f; rw [decide_eq_false hb]
  obtain ⟨L, hT, hL⟩ : ∃ t, laws_tail.f l = some t ∧ t.length ≤ 281474976702464 := by
    unfold laws_tail.f
    by_cases h0 : (l.length : Int) = 0
    · exact ⟨l, by rw [if_pos h0], by omega⟩
    · exact ⟨l.drop 1, by rw [if_neg h0, if_pos (by omega)], by simp; omega⟩
  obtain ⟨c, s, lo, hi, h, r, R, c', s', lo', hi', h', r', R', ⟨K1, e1⟩, b1, b2, b3, b4⟩ := drawMerge_ev l (by omega)
  obtain ⟨c2, s2, lo2, hi2, h2, r2, R2, c3, s3, lo3, hi3, h3, r3, R3, ⟨K2, e2⟩, _⟩ := drawMerge_ev L hL
  have DWf : ∀ k, K1 ≤ k → K2 ≤ k → Dw k l L c s lo hi h r R c' s' lo' hi' h' r' R' c2 s2 lo2 hi2 h2 r2 R2 c3 s3 lo3 hi3 h3 r3 R3 := fun k g1 g2 => ⟨hB, hT, e1 k g1, e2 k g2⟩
  clear e1 e2 hB hT
  obtain ⟨K3, m1⟩ := impl_mrg_ev c s lo hi h r R c' s' lo' hi' h' r' R'
  obtain ⟨K4, m2⟩ := impl_mrg_ev c' s' lo' hi' h' r' R' c s lo hi h r R
  obtain ⟨K5, m3⟩ := spec_mrg_ev c s lo hi h r R c' s' lo' hi' h' r' R'
  have no : (¬ skOk c s lo hi h r R = true ∨ ¬ skOk c' s' lo' hi' h' r' R' = true) → Calls Try.prog 7 #[.slice A l.length cp] w fun e w' => e = .returned (.bool true) ∧ Below w.heap.size w w' := fun n => by
    have z1 : mrgV c s lo hi h r R c' s' lo' hi' h' r' R' = (0, 0, 0, 0, [], [], [], false) := n.elim mrgV_no1 mrgV_no2
    have z2 : mrgV c' s' lo' hi' h' r' R' c s lo hi h r R = (0, 0, 0, 0, [], [], [], false) := n.elim mrgV_no2 mrgV_no1
    rw [z1] at m1 m3
    rw [z2] at m2
    have q1 := m1 (K1 + K2 + K3 + K4 + K5) (by omega)
    have q2 := m2 (K1 + K2 + K3 + K4 + K5) (by omega)
    have q3 := m3 (K1 + K2 + K3 + K4 + K5) (by omega)
    exact law0 (K1 + K2 + K3 + K4 + K5) A cp l L w u false false _ _ _ _ _ _ _ _ _ _ _ _ _ _ _ _ _ _ _ _ 0 0 0 0 0 0 0 0 _ _ _ _ _ _ _ _ _ _ [] [] [] [] _ _ _ _ _ [] [] ⟨DWf _ (by omega) (by omega)⟩ ⟨q1⟩ ⟨q2⟩ ⟨q3⟩ ⟨fun _ => rfl⟩ ⟨fun e => nomatch e⟩
  by_cases oa : skOk c s lo hi h r R = true
  case neg => exact no (.inl oa)
  by_cases ob : skOk c' s' lo' hi' h' r' R' = true
  case neg => exact no (.inr ob)
  clear no
  obtain ⟨a, ha, rfl, rfl, rfl, rfl, rfl, rfl, rfl⟩ := su_of_ok oa
  obtain ⟨b, hb', rfl, rfl, rfl, rfl, rfl, rfl, rfl⟩ := su_of_ok ob
  have hab := Su.mrg_ok ha hb'
  rw [mrgV_su ha hb'] at m1 m3
  rw [mrgV_su hb' ha, Su.mrg_comm hb' ha] at m2
  obtain ⟨K6, m4⟩ := impl_merge_ev ha Su.new_ok
  rw [Su.mrg_new ha] at m4
  obtain ⟨K7, m5⟩ := impl_same_su hab
  have m6' := impl_sketchOk_ev (Su.mrg a b).c (Su.mrg a b).s (Su.mrg a b).mn (Su.mrg a b).mx (Su.mrg a b).h (Su.mrg a b).r [(Su.mrg a b).p, (Su.mrg a b).q]
  rw [skOk_true.2 (su_skOk hab)] at m6'
  obtain ⟨K8, m6⟩ := m6'
  obtain ⟨K9, m7⟩ := impl_same_su ha
  by_cases od : skOk c2 s2 lo2 hi2 h2 r2 R2 = true
  · obtain ⟨d, hd, rfl, rfl, rfl, rfl, rfl, rfl, rfl⟩ := su_of_ok od
    have hbd := Su.mrg_ok hb' hd
    obtain ⟨K10, m8⟩ := impl_merge_ev hab hd
    obtain ⟨K11, m9⟩ := impl_merge_ev hb' hd
    obtain ⟨K12, m10⟩ := impl_merge_ev ha hbd
    rw [← Su.mrg_assoc ha hb' hd] at m10
    obtain ⟨K13, m11⟩ := impl_same_su (Su.mrg_ok hab hd)
    generalize hK : K1 + K2 + K3 + K4 + K5 + K6 + K7 + K8 + K9 + K10 + K11 + K12 + K13 = k
    have q1 := m1 k (by omega)
    have q2 := m2 k (by omega)
    have q3 := m3 k (by omega)
    have q4 := m4 k (by omega)
    have q5 := m5 k (by omega)
    have q6 := m6 k (by omega)
    have q7 := m7 k (by omega)
    have q8 := m8 k (by omega)
    have q9 := m9 k (by omega)
    have q10 := m10 k (by omega)
    have q11 := m11 k (by omega)
    exact law0 k A cp l L w u true true _ _ _ _ _ _ _ _ _ _ _ _ _ _ _ _ _ _ _ _ _ _ _ _ _ _ _ _ _ _ _ _ _ _ _ _ _ _ _ _ _ _ _ _ _ _ _ _ _ ⟨DWf k (by omega) (by omega)⟩ ⟨q1⟩ ⟨q2⟩ ⟨q3⟩ ⟨fun e => nomatch e⟩ ⟨fun _ => ⟨q4, q8, q9, q10, q5, q6, q7, q11⟩⟩
  · obtain ⟨K10, m8⟩ := impl_mrg_ev (Su.mrg a b).c (Su.mrg a b).s (Su.mrg a b).mn (Su.mrg a b).mx (Su.mrg a b).h (Su.mrg a b).r [(Su.mrg a b).p, (Su.mrg a b).q] c2 s2 lo2 hi2 h2 r2 R2
    rw [mrgV_no2 od] at m8
    obtain ⟨K11, m9⟩ := impl_mrg_ev b.c b.s b.mn b.mx b.h b.r [b.p, b.q] c2 s2 lo2 hi2 h2 r2 R2
    rw [mrgV_no2 od] at m9
    obtain ⟨K12, m10⟩ := impl_mrg_ev a.c a.s a.mn a.mx a.h a.r [a.p, a.q] 0 0 0 0 [] [] []
    rw [mrgV_no2 zero_bad] at m10
    obtain ⟨K13, m11⟩ := impl_sketchSame_ev 0 0 0 0 [] [] [] 0 0 0 0 [] [] [] (by simp) (by simp) (by simp) (by simp)
    rw [show skSame 0 0 0 0 [] [] [] 0 0 0 0 [] [] [] = true from by decide] at m11
    generalize hK : K1 + K2 + K3 + K4 + K5 + K6 + K7 + K8 + K9 + K10 + K11 + K12 + K13 = k
    have q1 := m1 k (by omega)
    have q2 := m2 k (by omega)
    have q3 := m3 k (by omega)
    have q4 := m4 k (by omega)
    have q5 := m5 k (by omega)
    have q6 := m6 k (by omega)
    have q7 := m7 k (by omega)
    have q8 := m8 k (by omega)
    have q9 := m9 k (by omega)
    have q10 := m10 k (by omega)
    have q11 := m11 k (by omega)
    exact law0 k A cp l L w u true false _ _ _ _ _ _ _ _ _ _ _ _ _ _ _ _ _ _ _ _ _ _ _ _ _ _ _ _ _ _ _ _ _ _ _ _ _ _ _ _ _ _ _ _ _ _ _ _ _ ⟨DWf k (by omega) (by omega)⟩ ⟨q1⟩ ⟨q2⟩ ⟨q3⟩ ⟨fun e => nomatch e⟩ ⟨fun _ => ⟨q4, q8, q9, q10, q5, q6, q7, q11⟩⟩

end Go.Proofs.Ytfknjoebomicnaa.HFnMerged
