/- SketchOf of the program is SketchOf of the reference, for all arguments; it leaves its argument as it was, and hands back memory of its own; the law, the program's reader and the reference's SketchOf are walked by hand. -/
import Derived.Test.YtfknjoebomicnaaPFnExactSketchOfx2
import Derived.Test.YtfknjoebomicnaaPFnExactSketchOfx3
import Derived.Test.YtfknjoebomicnaaPFnExactSketchOfx4
import Derived.Test.YtfknjoebomicnaaPFnExactSketchOfx5
import Derived.Test.YtfknjoebomicnaaPFnExactSketchOfx6
import Derived.Test.YtfknjoebomicnaaAid
import Derived.WalkKit
import Derived.Deep.RegionHeld3
import Derived.Deep.RegionLawGrows
namespace Go.Proofs.Ytfknjoebomicnaa.PFnExactSketchOf
open Go.RowKit Go.Proofs.YtfknjoebomicnaaW.PrintWords Go.Proofs.YtfknjoebomicnaaW.PrintLast Go.Proofs.YtfknjoebomicnaaW.PrintMore
attribute [local go_sem] max2_int min2_int max_two min_two max_three min_three max_four min_four
set_option linter.unusedVariables false
set_option linter.unusedSimpArgs false

/-! ### sketches of one's own, by the blocks that they lie in -/
structure Sl where
  A : Option Addr
  n : Nat
  c : Nat
/-- A sketch that is read: its rows lie in blocks from a on, ahead of b. -/
def Rk (w : World) (a b : Nat) (x y z : Sl) (h r : List Int) (R : List (List Int)) : Prop :=
  Kd.R (Kd.int .i64) 3 w a (fun k => k < b) (.slice x.A x.n x.c) h ∧ Kd.R (Kd.int .i64) 3 w a (fun k => k < b) (.slice y.A y.n y.c) r ∧ Kd.N (Kd.slice 3 (Kd.int .i64)) 23 w a (fun k => a ≤ k ∧ k < b) (.slice z.A z.n z.c) R
/-- A sketch that may be written: no two of its rows share. -/
def Sk (w : World) (a b : Nat) (x y z : Sl) (h r : List Int) (R : List (List Int)) : Prop :=
  Kd.R (Kd.int .i64) 3 w a (fun k => k < b) (.slice x.A x.n x.c) h ∧ Kd.R (Kd.int .i64) 3 w a (fun k => k < b ∧ some k ≠ (Value.slice x.A x.n x.c).ownBlock) (.slice y.A y.n y.c) r ∧
  Kd.S (Kd.slice 3 (Kd.int .i64)) 23 w a (fun k => k < b ∧ some k ≠ (Value.slice x.A x.n x.c).ownBlock ∧ some k ≠ (Value.slice y.A y.n y.c).ownBlock) (.slice z.A z.n z.c) R
section
variable {w w1 w' W : World} {a b a' b' : Nat} {x y z x' y' z' : Sl} {h r h' r' : List Int} {R R' : List (List Int)}
theorem Sk.rk (s : Sk w a b x y z h r R) : Rk w a b x y z h r R :=
  ⟨s.1, Kd.R_mono s.2.1 (fun _ hk => hk.1), Kd.S_N (Kd.S_mono (Kd.S_bound s.2.2) (fun _ hk => ⟨hk.2.1, hk.1.1⟩))⟩
theorem Rk.step (s : Rk w a b x y z h r R) (hm : ∀ k, a ≤ k → k < b → k < w.heap.size → w1.heap[k]? = w.heap[k]?) : Rk w1 a b x y z h r R :=
  ⟨Kd.R_mono (Kd.R_move (Kd.R_bound s.1) (fun k hk => hm k hk.2.1 hk.1 hk.2.2.1)) (fun _ hk => hk.1), Kd.R_mono (Kd.R_move (Kd.R_bound s.2.1) (fun k hk => hm k hk.2.1 hk.1 hk.2.2.1)) (fun _ hk => hk.1), Kd.N_step s.2.2 (fun k hk hl => hm k hk.1 hk.2 hl)⟩
theorem Sk.step (s : Sk w a b x y z h r R) (hm : ∀ k, a ≤ k → k < b → k < w.heap.size → w1.heap[k]? = w.heap[k]?) : Sk w1 a b x y z h r R :=
  ⟨Kd.R_mono (Kd.R_move (Kd.R_bound s.1) (fun k hk => hm k hk.2.1 hk.1 hk.2.2.1)) (fun _ hk => hk.1), Kd.R_mono (Kd.R_move (Kd.R_bound s.2.1) (fun k hk => hm k hk.2.1 hk.1.1 hk.2.2.1)) (fun _ hk => hk.1), Kd.S_mono (Kd.S_move (Kd.S_bound s.2.2) (fun k hk => hm k hk.2.1 hk.1.1 hk.2.2.1)) (fun _ hk => hk.1)⟩
theorem Rk.below (s : Rk w a b x y z h r R) (hb : Below w.heap.size w w1) : Rk w1 a b x y z h r R := s.step (fun k _ _ hl => hb.block k hl)
theorem Sk.below (s : Sk w a b x y z h r R) (hb : Below w.heap.size w w1) : Sk w1 a b x y z h r R := s.step (fun k _ _ hl => hb.block k hl)
/-- w is kept but for the blocks from a on, ahead of b. -/
structure Kp (w w' : World) (a b : Nat) : Prop where
  os : w'.os = w.os
  tape : w'.tape = w.tape
  output : w'.output = w.output
  kept : Kept w w' (fun k => a ≤ k ∧ k < b)
theorem Kp.refl (w : World) (a b : Nat) : Kp w w a b := ⟨rfl, rfl, rfl, Kept.refl _ _⟩
theorem Kp.trans (h : Kp w w1 a b) (k : Kp w1 w' a b) : Kp w w' a b := ⟨k.os.trans h.os, k.tape.trans h.tape, k.output.trans h.output, h.kept.then_ k.kept (fun _ hk => .inl hk)⟩
theorem Kp.below (h : Kp w w1 a b) (k : Below w1.heap.size w1 w') : Kp w w' a b := ⟨k.os.trans h.os, k.tape.trans h.tape, k.output.trans h.output, h.kept.below k⟩
theorem Kp.of (h : Below w.heap.size w w1) : Kp w w1 a b := (Kp.refl w a b).below h
theorem below_kp {B : Nat} (h : Below B W w) (k : Kp w w1 a b) (hB : B ≤ a) (hS : B ≤ w.heap.size) : Below B W w1 :=
  ⟨k.os.trans h.os, k.tape.trans h.tape, k.output.trans h.output, Nat.le_trans h.size k.kept.1, fun i hi => (k.kept.2 i (Nat.lt_of_lt_of_le hi hS) (fun hs => by omega)).trans (h.block i hi)⟩
theorem Rk.kp (s : Rk w a' b' x y z h r R) (k : Kp w w1 a b) (ha : b ≤ a' ∨ b' ≤ a) : Rk w1 a' b' x y z h r R := s.step (fun i h1 h2 h3 => k.kept.2 i h3 (fun hs => by omega))
theorem Sk.kp (s : Sk w a' b' x y z h r R) (k : Kp w w1 a b) (ha : b ≤ a' ∨ b' ≤ a) : Sk w1 a' b' x y z h r R := s.step (fun i h1 h2 h3 => k.kept.2 i h3 (fun hs => by omega))
theorem Rk.reads (s : Rk w a b x y z h r R) : x.n = h.length ∧ y.n = r.length ∧ z.n = R.length ∧ x.n ≤ x.c ∧ y.n ≤ y.c ∧ z.n ≤ z.c ∧ (Kd.int .i64).C w x.A h.length h ∧ (Kd.int .i64).C w y.A r.length r ∧ (Kd.slice 3 (Kd.int .i64)).C w z.A R.length R := by
  obtain ⟨h1, h2, h3⟩ := Kd.R_reads' s.1
  obtain ⟨h4, h5, h6⟩ := Kd.R_reads' s.2.1
  obtain ⟨h7, h8, h9⟩ := Kd.N_reads' s.2.2
  exact ⟨h1, h4, h7, h2, h5, h8, h3, h6, h9⟩
/-- A box: a struct's variable in memory. -/
def Bx (w : World) (g t : Nat) (cs : Array Value) : Prop := w.heap[g]? = some (.cells cs t (0, 0))
theorem Bx.lt {g t : Nat} {cs : Array Value} (hb : Bx w g t cs) : g < w.heap.size := blk_lt hb
theorem Bx.below {g t : Nat} {cs : Array Value} (hb : Bx w g t cs) (k : Below w.heap.size w w1) : Bx w1 g t cs := blk_below hb k
theorem Bx.kp {g t : Nat} {cs : Array Value} (hb : Bx w g t cs) (k : Kp w w1 a b) (hg : g < a ∨ b ≤ g) : Bx w1 g t cs := (k.kept.2 g hb.lt (fun hs => by omega)).trans hb
theorem Bx.new (w : World) (t : Nat) (cs : Array Value) : Bx (w.alloc (.cells cs t)) w.heap.size t cs := blk_new w _
theorem Bx.cells {g t : Nat} {v0 v1 v2 v3 v4 v5 v6 : Value} (hb : Bx w g t #[v0, v1, v2, v3, v4, v5, v6]) :
    w.cell? ⟨g, 0, none⟩ = some v0 ∧ w.cell? ⟨g, 1, none⟩ = some v1 ∧ w.cell? ⟨g, 2, none⟩ = some v2 ∧ w.cell? ⟨g, 3, none⟩ = some v3 ∧ w.cell? ⟨g, 4, none⟩ = some v4 ∧ w.cell? ⟨g, 5, none⟩ = some v5 ∧ w.cell? ⟨g, 6, none⟩ = some v6 :=
  ⟨blk_cell hb 0, blk_cell hb 1, blk_cell hb 2, blk_cell hb 3, blk_cell hb 4, blk_cell hb 5, blk_cell hb 6⟩
end
/-! ### what a call is handed: sketches and rows that are read -/
structure Rd (w : World) (x y z : Sl) (h r : List Int) (R : List (List Int)) : Prop where
  e4 : x.n = h.length
  e5 : y.n = r.length
  e6 : z.n = R.length
  l4 : h.length ≤ x.c
  l5 : r.length ≤ y.c
  l6 : R.length ≤ z.c
  C4 : (Kd.int .i64).C w x.A h.length h
  C5 : (Kd.int .i64).C w y.A r.length r
  C6 : (Kd.slice 3 (Kd.int .i64)).C w z.A R.length R
section
variable {w w1 w' W : World} {a b a' b' : Nat} {x y z x' y' z' : Sl} {h r h' r' : List Int} {R R' : List (List Int)}
theorem Rd.below (s : Rd w x y z h r R) (hb : Below w.heap.size w w1) : Rd w1 x y z h r R := ⟨s.e4, s.e5, s.e6, s.l4, s.l5, s.l6, Kd.C_below s.C4 hb, Kd.C_below s.C5 hb, Kd.C_below s.C6 hb⟩
theorem Rk.rd (s : Rk w a b x y z h r R) : Rd w x y z h r R := by
  obtain ⟨e1, e2, e3, l1, l2, l3, C1, C2, C3⟩ := s.reads
  exact ⟨e1, e2, e3, by omega, by omega, by omega, C1, C2, C3⟩
theorem Sk.rd (s : Sk w a b x y z h r R) : Rd w x y z h r R := s.rk.rd
end
/-- Bytes of one's own, by the blocks that they lie in. -/
def By (w : World) (a b : Nat) (v : Sl) (l : List Int) : Prop := Kd.R (Kd.int .u8) 5 w a (fun k => k < b) (.slice v.A v.n v.c) l
structure Bd (w : World) (v : Sl) (l : List Int) : Prop where
  e : v.n = l.length
  le : l.length ≤ v.c
  C : (Kd.int .u8).C w v.A l.length l
section
variable {w w1 : World} {a b a' b' : Nat} {v : Sl} {l : List Int}
theorem By.step (s : By w a b v l) (hm : ∀ k, a ≤ k → k < b → k < w.heap.size → w1.heap[k]? = w.heap[k]?) : By w1 a b v l := Kd.R_mono (Kd.R_move (Kd.R_bound s) (fun k hk => hm k hk.2.1 hk.1 hk.2.2.1)) (fun _ hk => hk.1)
theorem By.below (s : By w a b v l) (hb : Below w.heap.size w w1) : By w1 a b v l := s.step (fun k _ _ hl => hb.block k hl)
theorem By.kp (s : By w a' b' v l) (k : Kp w w1 a b) (ha : b ≤ a' ∨ b' ≤ a) : By w1 a' b' v l := s.step (fun i h1 h2 h3 => k.kept.2 i h3 (fun hs => by omega))
theorem By.rd (s : By w a b v l) : Bd w v l := by
  obtain ⟨h1, h2, h3⟩ := Kd.R_reads' s
  exact ⟨h1, by omega, h3⟩
theorem Bd.below (s : Bd w v l) (hb : Below w.heap.size w w1) : Bd w1 v l := ⟨s.e, s.le, Kd.C_below s.C hb⟩
theorem By.of {base : Nat} {ok : Nat → Prop} {u : Value} (h : Kd.R (Kd.int .u8) 5 w base ok u l) : ∃ v : Sl, u = .slice v.A v.n v.c ∧ By w base w.heap.size v l := by
  obtain ⟨A, c, rfl⟩ := Kd.R_slice h
  exact ⟨⟨A, _, c⟩, rfl, Kd.R_mono (Kd.R_bound h) (fun _ hk => hk.2.2.1)⟩
end
/-- What was made between two worlds lies in blocks from a on, ahead of b. -/
def Made (w w' : World) (a b : Nat) : Prop := w.heap.size ≤ a ∧ a ≤ b ∧ b ≤ w'.heap.size
section
variable {w' : World} {base : Nat} {ok4 ok5 ok6 : Nat → Prop} {v4 v5 v6 : Value} {h r : List Int} {R : List (List Int)}
theorem Rk.of (h4 : Kd.R (Kd.int .i64) 3 w' base ok4 v4 h) (h5 : Kd.R (Kd.int .i64) 3 w' base ok5 v5 r) (h6 : Kd.N (Kd.slice 3 (Kd.int .i64)) 23 w' base ok6 v6 R) (hok : ∀ k, ok6 k → base ≤ k) :
    ∃ x y z : Sl, v4 = .slice x.A x.n x.c ∧ v5 = .slice y.A y.n y.c ∧ v6 = .slice z.A z.n z.c ∧ Rk w' base w'.heap.size x y z h r R := by
  obtain ⟨A4, c4, rfl⟩ := Kd.R_slice h4
  obtain ⟨A5, c5, rfl⟩ := Kd.R_slice h5
  obtain ⟨A6, c6, rfl, _⟩ := Kd.N_reads h6
  exact ⟨⟨A4, _, c4⟩, ⟨A5, _, c5⟩, ⟨A6, _, c6⟩, rfl, rfl, rfl, Kd.R_mono (Kd.R_bound h4) (fun _ hk => hk.2.2.1), Kd.R_mono (Kd.R_bound h5) (fun _ hk => hk.2.2.1), Kd.N_mono (Kd.N_bound h6) (fun k hk => ⟨hok k hk.1, hk.2⟩)⟩
theorem Sk.of (h4 : Kd.R (Kd.int .i64) 3 w' base ok4 v4 h) (h5 : Kd.R (Kd.int .i64) 3 w' base ok5 v5 r) (h6 : Kd.S (Kd.slice 3 (Kd.int .i64)) 23 w' base ok6 v6 R) (hok5 : ∀ k, ok5 k → some k ≠ v4.ownBlock) (hok6 : ∀ k, ok6 k → some k ≠ v4.ownBlock ∧ some k ≠ v5.ownBlock) :
    ∃ x y z : Sl, v4 = .slice x.A x.n x.c ∧ v5 = .slice y.A y.n y.c ∧ v6 = .slice z.A z.n z.c ∧ Sk w' base w'.heap.size x y z h r R := by
  obtain ⟨A4, c4, rfl⟩ := Kd.R_slice h4
  obtain ⟨A5, c5, rfl⟩ := Kd.R_slice h5
  obtain ⟨A6, c6, rfl⟩ := Kd.S_slice h6
  exact ⟨⟨A4, _, c4⟩, ⟨A5, _, c5⟩, ⟨A6, _, c6⟩, rfl, rfl, rfl, Kd.R_mono (Kd.R_bound h4) (fun _ hk => hk.2.2.1), Kd.R_mono (Kd.R_bound h5) (fun k hk => ⟨hk.2.2.1, hok5 k hk.1⟩), Kd.S_mono (Kd.S_bound h6) (fun k hk => ⟨hk.2.2.1, hok6 k hk.1⟩)⟩
end
/-! ### stores into a sketch of one's own -/
section
variable {w w1 w' W : World} {a b a' b' : Nat} {x y z x' y' z' : Sl} {h r h' r' : List Int} {R R' : List (List Int)}
theorem kept_set {g j : Nat} (v : Value) : Kept w (w.setCell ⟨g, j, none⟩ v) (fun k => k = g) :=
  ⟨by simp, fun i hi hn => Below.heap_setCell w ⟨g, j, none⟩ v i hn⟩
theorem Kp.set {g j : Nat} (hg : a ≤ g ∧ g < b) (v : Value) : Kp w (w.setCell ⟨g, j, none⟩ v) a b :=
  ⟨by first | rfl | simp, by first | rfl | simp, by first | rfl | simp, (kept_set v).mono (fun k hk => by subst hk; exact hg)⟩
/-- Numbers that may be written, at a block. -/
structure Put (w : World) (a b g : Nat) (l : List Int) : Prop where
  lo : a ≤ g
  hi : g < b
  lt : g < w.heap.size
  rd : ∀ (i : Nat) (hi : i < l.length), w.cell? ⟨g, i, none⟩ = some (.int .i64 l[i])
  fz : ∀ i, w.frozen? ⟨g, i, none⟩ = false
theorem row_kept2 {a e : Nat} {ok S : Nat → Prop} {v : Value} {l : List Int} (u : Kd.R (Kd.int .i64) e w a ok v l) (hk : Kept w w' S) (hne : ∀ k, v.ownBlock = some k → ¬ S k) : Kd.R (Kd.int .i64) e w' a ok v l :=
  Kd.R_reok rfl (Kd.R_kept (Kd.R_tight rfl u) hk (fun k hk' => hne k hk'.symm)) (fun k hk' => u.1 k hk')
theorem rowI_put {ok : Nat → Prop} {A : Option Addr} {n c : Nat} {l : List Int} (u : Kd.R (Kd.int .i64) 3 w a ok (.slice A n c) l) (hl : 0 < l.length) (hok : ∀ k, ok k → k < b) :
    ∃ g, A = some ⟨g, 0, none⟩ ∧ ok g ∧ Put w a b g l ∧ n = l.length ∧ ∀ (i : Nat) (v : Int), Kd.R (Kd.int .i64) 3 (w.setCell ⟨g, i, none⟩ (.int .i64 v)) a ok (.slice A n c) (l.set i v) := by
  obtain ⟨g, cap, hv, hlo, hlt, cells, hc⟩ := Kd.R_form u hl
  injection hv with hA hn hcap
  subst hA hn hcap
  have hokg : ok g := u.1 g (by simp [Value.ownBlock])
  refine ⟨g, rfl, hokg, ⟨hlo, hok g hokg, hlt, fun i hi => ?_, fun i => blk_frozen hc i⟩, rfl, fun i v => ?_⟩
  · obtain ⟨c, hcl, hM, hcell⟩ := Kd.R_getA u (0 : Int) (i : Int) (by omega) (by omega)
    have hM' : c = [Value.int .i64 (l.getD (i : Int).toNat 0)] := hM
    subst hM'
    have h1 := hcell 0 _ rfl
    simp only [Int.toNat_natCast, Nat.add_zero, add_plain] at h1
    have h2 : (Kd.int .i64).sz = 1 := rfl
    rw [h2, Nat.mul_one] at h1
    rw [h1, List.getD_eq_getElem?_getD, List.getElem?_eq_getElem hi]
    rfl
  · have := Kd.R_putn u (i : Int) v
    rw [Int.toNat_natCast] at this
    exact this
theorem Sk.h_put (s : Sk w a b x y z h r R) (hl : 0 < h.length) : ∃ g, x.A = some ⟨g, 0, none⟩ ∧ x.n = h.length ∧ h.length ≤ x.c ∧ Put w a b g h ∧ ∀ (i : Nat) (v : Int), Sk (w.setCell ⟨g, i, none⟩ (.int .i64 v)) a b x y z (h.set i v) r R ∧ Kp w (w.setCell ⟨g, i, none⟩ (.int .i64 v)) a b := by
  obtain ⟨e1, _, _, l1, _⟩ := s.rk.reads
  obtain ⟨s1, s2, s3⟩ := s
  obtain ⟨g, hA, hok, hp, hn, hset⟩ := rowI_put (b := b) s1 hl (fun k hk => hk)
  have hown : (Value.slice x.A x.n x.c).ownBlock = some g := by rw [hA]; simp [Value.ownBlock]
  refine ⟨g, hA, hn, by omega, hp, fun i v => ⟨⟨hset i v, ?_, ?_⟩, Kp.set ⟨hp.lo, hp.hi⟩ _⟩⟩
  · exact Kd.R_far (p := ⟨g, i, none⟩) s2 (fun k hk e => hk.2 (by rw [hown, e])) _
  · exact Kd.S_far (p := ⟨g, i, none⟩) s3 (fun k hk e => hk.2.1 (by rw [hown, e])) _
theorem Sk.r_put (s : Sk w a b x y z h r R) (hl : 0 < r.length) : ∃ g, y.A = some ⟨g, 0, none⟩ ∧ y.n = r.length ∧ r.length ≤ y.c ∧ Put w a b g r ∧ ∀ (i : Nat) (v : Int), Sk (w.setCell ⟨g, i, none⟩ (.int .i64 v)) a b x y z h (r.set i v) R ∧ Kp w (w.setCell ⟨g, i, none⟩ (.int .i64 v)) a b := by
  obtain ⟨_, e1, _, _, l1, _⟩ := s.rk.reads
  obtain ⟨s1, s2, s3⟩ := s
  obtain ⟨g, hA, hok, hp, hn, hset⟩ := rowI_put (b := b) s2 hl (fun k hk => hk.1)
  have hown : (Value.slice y.A y.n y.c).ownBlock = some g := by rw [hA]; simp [Value.ownBlock]
  refine ⟨g, hA, hn, by omega, hp, fun i v => ⟨⟨?_, hset i v, ?_⟩, Kp.set ⟨hp.lo, hp.hi⟩ _⟩⟩
  · exact row_kept2 s1 (kept_set _) (fun k hk e => by subst e; exact hok.2 hk.symm)
  · exact Kd.S_far (p := ⟨g, i, none⟩) s3 (fun k hk e => hk.2.2 (by rw [hown, e])) _
theorem Sk.row_put (s : Sk w a b x y z h r R) (j : Nat) (hj : j < R.length) (hl : 0 < R[j].length) : ∃ gz p c, z.A = some ⟨gz, 0, none⟩ ∧ z.n = R.length ∧ R.length ≤ z.c ∧ w.cell? ⟨gz, j, none⟩ = some (.slice (some ⟨p, 0, none⟩) R[j].length c) ∧ R[j].length ≤ c ∧ Put w a b p R[j] ∧
    ∀ (i : Nat) (v : Int), Sk (w.setCell ⟨p, i, none⟩ (.int .i64 v)) a b x y z h r (R.set j (R[j].set i v)) ∧ Kp w (w.setCell ⟨p, i, none⟩ (.int .i64 v)) a b := by
  obtain ⟨_, _, e1, _, _, l1, _⟩ := s.rk.reads
  obtain ⟨s1, s2, s3⟩ := s
  obtain ⟨gz, cap, hv, hbg, hgs, _⟩ := Kd.S_form s3 (by omega)
  injection hv with hA hn hc
  have S2 := s3
  rw [hA] at S2
  obtain ⟨oki, c, hcl2, hM, hcell, hoki, hH⟩ := Kd.S_lend S2 ([] : List Int) (j : Int) (by omega) (by omega)
  obtain ⟨v, rfl, hRv⟩ := hM
  have hget : R.getD (j : Int).toNat [] = R[j] := by
    rw [Int.toNat_natCast, List.getD_eq_getElem?_getD, List.getElem?_eq_getElem hj]
    rfl
  rw [hget] at hRv
  have hc0 := hcell 0 v rfl
  simp only [Int.toNat_natCast, Kd.slice, Nat.mul_one, Nat.add_zero] at hc0
  have hle := Kd.R_reads hRv
  obtain ⟨A1, c1, rfl, hle, _⟩ := hle
  obtain ⟨p, hAp, hokp, hp, _, hset⟩ := rowI_put (b := b) hRv hl (fun k hk => (hoki k hk).1.1)
  subst hAp
  refine ⟨gz, p, c1, hA, hn, by omega, hc0, hle, hp, fun i v => ⟨⟨?_, ?_, ?_⟩, Kp.set ⟨hp.lo, hp.hi⟩ _⟩⟩
  · exact row_kept2 s1 (kept_set _) (fun k hk e => by subst e; exact (hoki _ hokp).1.2.1 hk.symm)
  · exact row_kept2 s2 (kept_set _) (fun k hk e => by subst e; exact (hoki _ hokp).1.2.2 hk.symm)
  · have h1 := Kd.H_kept hH (kept_set (g := p) (j := i) (.int .i64 v)) (fun q hq hn hs => by subst hs; exact hn hokp)
    have h2 := Kd.H_back h1 (x' := R[j].set i v) (okp := oki) ⟨_, rfl, hset i v⟩ (fun _ hq => hq)
    rw [Int.toNat_natCast] at h2
    rw [hA]
    exact h2
end
/-! ### the reader of numbers -/
theorem Bx.cells3 {w : World} {g t : Nat} {v0 v1 v2 : Value} (hb : Bx w g t #[v0, v1, v2]) : w.cell? ⟨g, 0, none⟩ = some v0 ∧ w.cell? ⟨g, 1, none⟩ = some v1 ∧ w.cell? ⟨g, 2, none⟩ = some v2 :=
  ⟨blk_cell hb 0, blk_cell hb 1, blk_cell hb 2⟩
/-- What one reading hands back; the place behind it; whether reading has gone wrong. -/
def rdV : Bool → Int × Int × Bool → Int
  | false, (n, _, true) => n
  | _, _ => 0
def rdA : Bool → Int → Int × Int × Bool → Int
  | false, _, (_, q, true) => q
  | _, a, _ => a
def rdB : Bool → Int × Int × Bool → Bool
  | false, (_, _, true) => false
  | _, _ => true
set_option maxHeartbeats 4000000 in
theorem num_call (k : Nat) {w : World} {g c : Nat} {A : Option Addr} {l : List Int} (a : Int) (bad : Bool) (N : Int × Int × Bool) (B : Bx w g 64 #[.slice A l.length c, .int .i64 a, .bool bad]) (C : (Kd.int .u8).C w A l.length l) (lc : l.length ≤ c) (he : impl_GetNum.f k l a = some N) :
    Calls Try.prog 82 #[.pointer (some ⟨g, 0, none⟩)] w fun e w' => e = .returned (.int .i64 (rdV bad N)) ∧ Bx w' g 64 #[.slice A l.length c, .int .i64 (rdA bad a N), .bool (rdB bad N)] ∧ Kp w w' g (g + 1) := by
  obtain ⟨n, q, ok⟩ := N
  have B0 := Aside0.mk B
  have U0 := Aside0.mk C
  have L0 := Aside0.mk lc
  have E0 := Aside0.mk he
  clear B C lc he
  cases bad <;> cases ok
  all_goals
    obtain ⟨c0, c1, c2⟩ := B0.out.cells3
    go_enter Try.func82, Try.ntmps82
    go_wp2_with fail
    have hd : Below w.heap.size w w.drew := below_drew (Below.refl _ w)
    have B1 := Aside0.mk (B0.out.below hd)
    have U1 := Aside0.mk (Kd.C_below U0.out hd)
    have HB := Aside0.mk hd
    clear hd B0 U0
    go_region_held3 (fun w' => w'.cell? ⟨g, 0, none⟩ = some (.slice A l.length c) ∧ w'.cell? ⟨g, 1, none⟩ = some (.int .i64 a)) (first | go_keep | exact ⟨c0', c1'⟩) (first | (go_at_call 101; (with_reducible refine (impl_GetNum.calls k A c l a n q _ _ U1.out L0.out E0.out).mono ?_); rintro e w1 ⟨rfl, hb⟩; have B2 := Aside0.mk (B1.out.below hb); have HB2 := Aside0.mk (below_step HB.out hb); clear hb; obtain ⟨c0', c1', c2'⟩ := B2.out.cells3))
    try clear c0 c1 c2
    clear B1 HB U1
    obtain ⟨d0, d1, d2⟩ := B2.out.cells3
    have f2 := fun i => blk_frozen B2.out i
    go_wp2
    go_ret
    first
      | exact ⟨rfl, blk_put B2.out 1 _ rfl, Kp.trans (w1 := w1) ⟨HB2.out.os, HB2.out.tape, HB2.out.output, (Kept.refl _ _).below HB2.out⟩ (Kp.set ⟨Nat.le_refl _, Nat.lt_succ_self _⟩ _)⟩
      | exact ⟨rfl, blk_put B2.out 2 _ rfl, Kp.trans (w1 := w1) ⟨HB2.out.os, HB2.out.tape, HB2.out.output, (Kept.refl _ _).below HB2.out⟩ (Kp.set ⟨Nat.le_refl _, Nat.lt_succ_self _⟩ _)⟩
theorem Kp.lower {w w1 w' : World} {a b : Nat} (h : Kp w w1 a b) (k : Below w.heap.size w1 w') : Kp w w' a b := ⟨k.os.trans h.os, k.tape.trans h.tape, k.output.trans h.output, ⟨Nat.le_trans h.kept.1 k.size, fun i hi hs => (k.block i hi).trans (h.kept.2 i hi hs)⟩⟩
/-- So many readings, as far as none goes wrong. -/
def rdNums (N : Int → Int × Int × Bool) : Nat → Bool → Int → List Int × Bool × Int
  | 0, b, a => ([], b, a)
  | _ + 1, true, a => ([], true, a)
  | n + 1, false, a => (rdV false (N a) :: (rdNums N n (rdB false (N a)) (rdA false a (N a))).1, (rdNums N n (rdB false (N a)) (rdA false a (N a))).2)
set_option maxHeartbeats 4000000 in
theorem nums_call (k : Nat) {w : World} {g c : Nat} {A : Option Addr} {l : List Int} (m : Nat) (mi : Int) (hmi : mi = (m : Int)) (hm : m ≤ 100) (a : Int) (bad : Bool) (N : Int → Int × Int × Bool) (fl : List Int) (fb : Bool) (fa : Int) (hf : rdNums N m bad a = (fl, fb, fa)) (B : Bx w g 64 #[.slice A l.length c, .int .i64 a, .bool bad]) {W0 : World} (C : (Kd.int .u8).C W0 A l.length l) (hB : Below W0.heap.size W0 w) (hg : W0.heap.size ≤ g) (lc : l.length ≤ c) (he : ∀ a, impl_GetNum.f k l a = some (N a)) :
    Calls Try.prog 83 #[.pointer (some ⟨g, 0, none⟩), .int .i64 mi] w fun e w' => ∃ v : Value, e = .returned v ∧ Kd.R (Kd.int .i64) 3 w' w.heap.size (fun _ => True) v fl ∧ Bx w' g 64 #[.slice A l.length c, .int .i64 fa, .bool fb] ∧ Kp w w' g (g + 1) := by
  have B0 := Aside0.mk B
  have U0 := Aside0.mk C
  have L0 := Aside0.mk lc
  have E0 := Aside0.mk he
  have M0 := Aside0.mk hmi
  have F0 := Aside0.mk hf
  have G0 := Aside0.mk (show g < w.heap.size from B.lt)
  have B9 := Aside0.mk hB
  have G9 := Aside0.mk hg
  clear hB hg
  clear B C lc he hmi hf
  go_enter Try.func83, Try.ntmps83
  go_wp2
  go_loopg [5, 6] (m + 1) (fun gg v5 v6 w' => ∃ (i : Nat) (xs ys : List Int) (b : Bool) (a1 : Int), i ≤ m ∧ m - i + 1 ≤ gg ∧ v6 = .int .i64 (i : Int) ∧ Aside0 (rdNums N (m - i) b a1 = (ys, fb, fa) ∧ xs ++ ys = fl ∧ xs.length ≤ i) ∧ Aside0 (Kd.R (Kd.int .i64) 3 w' w.heap.size (fun _ => True) v5 xs) ∧ Aside0 (Bx w' g 64 #[.slice A l.length c, .int .i64 a1, .bool b]) ∧ Aside0 (Kp w w' g (g + 1)))
  case atStart => exact ⟨0, [], fl, bad, a, Nat.zero_le _, by omega, rfl, ⟨by rw [Nat.sub_zero]; exact F0.out, rfl, by simp⟩, ⟨Kd.R_nil _ _ _ _ _⟩, B0, ⟨Kp.refl _ _ _⟩⟩
  case round =>
    obtain ⟨i, xs, ys, b, a1, hi, hgk, rfl, HR, HO, HX, HK⟩ := hrel
    obtain ⟨c0, c1, c2⟩ := HX.out.cells3
    by_cases hlt : i < m
    · have hd : decide ((i : Int) < mi) = true := decide_eq_true (by have := M0.out; omega)
      cases b
      · obtain ⟨r1, r2, r3⟩ := HR.out
        obtain ⟨n, hn⟩ : ∃ n, m - i = n + 1 := ⟨m - i - 1, by omega⟩
        rw [hn] at r1
        simp only [rdNums] at r1
        have HN := Aside0.mk (show m - (i + 1) = n by omega)
        have HR1 := Aside0.mk (And.intro r1 (And.intro r2 r3))
        clear r1 r2 r3 hn HR
        obtain ⟨N1, hN1⟩ : ∃ N1, N a1 = N1 := ⟨_, rfl⟩
        rw [hN1] at HR1
        have EN := Aside0.mk (show impl_GetNum.f k l a1 = some N1 from by rw [← hN1]; exact E0.out a1)
        clear hN1
        obtain ⟨x1, hx1⟩ : ∃ x, x = rdV false N1 := ⟨_, rfl⟩
        have CR := Aside0.mk (show (Kd.int .u8).C _ A l.length l from Kd.C_below U0.out (below_kp B9.out HK.out G9.out B9.out.size))
        have NM := Aside0.mk (num_call k a1 false N1 HX.out CR.out L0.out EN.out)
        rw [← hx1] at NM HR1
        clear hx1
        go_wp2_with (first | (go_at_call 82; (with_reducible refine NM.out.mono ?_); rintro e w1 ⟨rfl, hB, hk⟩; have HX1 := Aside0.mk hB; have HK1 := Aside0.mk (HK.out.trans hk); have HO1 := Aside0.mk (Kd.R_mono (Kd.R_move (Kd.R_bound HO.out) (fun i hi => hk.kept.2 i hi.2.2.1 (fun hs => by have := G0.out; have := hi.2.1; omega))) (fun _ _ => trivial)); clear hB hk HX HK HO CR NM) | ((with_reducible refine gate_builtin (b := .append) (xs := #[.tmp 19, .tmp 22]) rfl ?_); at_builtin; refine Kd.R_append (Kd.int .i64) (w0 := _) w.heap.size rfl (.tmp 19) (.tmp 22) 23 3 (.int .i64 0) 8 rfl Try.underlying23 info3 rfl (by decide) (by omega) _ xs x1 [.int .i64 x1] (fun _ => True) (fun _ => False) rfl rfl rfl (fun _ hk => hk.elim) (fun _ _ => trivial) HO1.out (Below.refl _ _) HK1.out.kept.1 (by have := HR1.out.2.2; omega) ?_; intro v2 w2 ho hb hg hat; have HO2 := Aside0.mk ho; have HX2 := Aside0.mk ((hb.block g G0.out).trans HX1.out); have HK2 := Aside0.mk (HK1.out.lower hb); clear ho hb hg hat HO1 HX1 HK1))
        go_roundg (m - (i + 1) + 1)
        case measure => omega
        case rel => exact ⟨i + 1, xs ++ [x1], _, _, _, by omega, by omega, by go_num, ⟨by rw [HN.out]; exact Prod.ext rfl (Prod.mk.inj HR1.out.1).2, by rw [List.append_assoc, List.singleton_append, (Prod.mk.inj HR1.out.1).1]; exact HR1.out.2.1, by rw [List.length_append]; have := HR1.out.2.2; simp; omega⟩, HO2, HX2, HK2⟩
      · obtain ⟨r1, r2, r3⟩ := HR.out
        obtain ⟨n, hn⟩ : ∃ n, m - i = n + 1 := ⟨m - i - 1, by omega⟩
        rw [hn] at r1
        simp only [rdNums, Prod.mk.injEq] at r1
        obtain ⟨rfl, rfl, rfl⟩ := r1
        rw [List.append_nil] at r2
        subst r2
        clear hn r3 HR
        go_wp2
        go_ret
        exact ⟨_, rfl, HO.out, HX.out, HK.out⟩
    · have hd : decide ((i : Int) < mi) = false := decide_eq_false (by have := M0.out; omega)
      obtain ⟨r1, r2, r3⟩ := HR.out
      rw [show m - i = 0 by omega] at r1
      simp only [rdNums, Prod.mk.injEq] at r1
      obtain ⟨rfl, rfl, rfl⟩ := r1
      rw [List.append_nil] at r2
      subst r2
      clear r3 HR
      go_wp2
      go_ret
      exact ⟨_, rfl, HO.out, HX.out, HK.out⟩
/-! ### the same, of sketches whose rows' blocks are named -/
section
variable {w w1 w' W : World} {a b a' b' : Nat} {x y z : Sl} {h r : List Int} {R : List (List Int)}
theorem Sk.named (s : Sk w a b x y z h r R) (h1 : 0 < h.length) (h2 : 0 < r.length) (h3 : 0 < R.length) : ∃ gx cx gy cy gz cz, x = ⟨some ⟨gx, 0, none⟩, h.length, cx⟩ ∧ y = ⟨some ⟨gy, 0, none⟩, r.length, cy⟩ ∧ z = ⟨some ⟨gz, 0, none⟩, R.length, cz⟩ := by
  obtain ⟨gx, e1, e2, _⟩ := s.h_put h1
  obtain ⟨gy, e3, e4, _⟩ := s.r_put h2
  obtain ⟨gz, cap, hv, _⟩ := Kd.S_form s.2.2 h3
  injection hv with e5 e6 e7
  refine ⟨gx, x.c, gy, y.c, gz, z.c, ?_, ?_, ?_⟩
  · rw [← e1, ← e2]
  · rw [← e3, ← e4]
  · rw [← e5, ← e6]
theorem Sk.hN {g n c : Nat} (s : Sk w a b ⟨some ⟨g, 0, none⟩, n, c⟩ y z h r R) (hl : 0 < h.length) : Put w a b g h ∧ ∀ (i : Nat) (v : Int), Sk (w.setCell ⟨g, i, none⟩ (.int .i64 v)) a b ⟨some ⟨g, 0, none⟩, n, c⟩ y z (h.set i v) r R ∧ Kp w (w.setCell ⟨g, i, none⟩ (.int .i64 v)) a b := by
  obtain ⟨g', e, _, _, p, put⟩ := s.h_put hl
  injection e with e
  injection e with e
  subst e
  exact ⟨p, put⟩
theorem Sk.rN {g n c : Nat} (s : Sk w a b x ⟨some ⟨g, 0, none⟩, n, c⟩ z h r R) (hl : 0 < r.length) : Put w a b g r ∧ ∀ (i : Nat) (v : Int), Sk (w.setCell ⟨g, i, none⟩ (.int .i64 v)) a b x ⟨some ⟨g, 0, none⟩, n, c⟩ z h (r.set i v) R ∧ Kp w (w.setCell ⟨g, i, none⟩ (.int .i64 v)) a b := by
  obtain ⟨g', e, _, _, p, put⟩ := s.r_put hl
  injection e with e
  injection e with e
  subst e
  exact ⟨p, put⟩
theorem Sk.rowN {g n c : Nat} (s : Sk w a b x y ⟨some ⟨g, 0, none⟩, n, c⟩ h r R) (j : Nat) (hj : j < R.length) (hl : 0 < R[j].length) : ∃ p cp, w.cell? ⟨g, j, none⟩ = some (.slice (some ⟨p, 0, none⟩) R[j].length cp) ∧ Put w a b p R[j] ∧
    ∀ (i : Nat) (v : Int), Sk (w.setCell ⟨p, i, none⟩ (.int .i64 v)) a b x y ⟨some ⟨g, 0, none⟩, n, c⟩ h r (R.set j (R[j].set i v)) ∧ Kp w (w.setCell ⟨p, i, none⟩ (.int .i64 v)) a b := by
  obtain ⟨g', p, cp, e, _, _, hc, _, P, put⟩ := s.row_put j hj hl
  injection e with e
  injection e with e
  subst e
  exact ⟨p, cp, hc, P, put⟩
end
/-- Those ahead of n are of the first list, those from n on of the second. -/
def mix2 {α : Type} (zs xs : List α) (n : Nat) : List α := zs.take n ++ xs.drop n
section
variable {α : Type} {zs xs : List α}
theorem mix2_zero (zs xs : List α) : mix2 zs xs 0 = xs := by simp [mix2]
theorem mix2_all (hl : zs.length = xs.length) {n : Nat} (hn : xs.length ≤ n) : mix2 zs xs n = zs := by
  unfold mix2
  rw [List.take_of_length_le (by omega), List.drop_of_length_le hn, List.append_nil]
theorem mix2_length (hl : zs.length = xs.length) (n : Nat) : (mix2 zs xs n).length = xs.length := by
  unfold mix2
  rw [List.length_append, List.length_take, List.length_drop]
  omega
theorem mix2_get (hl : zs.length = xs.length) (n : Nat) (hn : n < xs.length) : (mix2 zs xs n)[n]'(by rw [mix2_length hl]; exact hn) = xs[n] := by
  unfold mix2
  rw [List.getElem_append_right (by rw [List.length_take]; omega)]
  simp only [List.length_take, List.getElem_drop]
  congr 1
  omega
theorem mix2_set (hl : zs.length = xs.length) (n : Nat) (hn : n < xs.length) : (mix2 zs xs n).set n (zs[n]'(by omega)) = mix2 zs xs (n + 1) := by
  have hlt : (zs.take n).length = n := by rw [List.length_take]; omega
  unfold mix2
  rw [List.set_append_right _ _ (by omega), hlt, Nat.sub_self, List.drop_eq_getElem_cons hn, List.set_cons_zero, List.take_succ_eq_append_getElem (by omega), List.append_assoc]
  rfl
end
/-- A box's cells behind an alloc, whatever it lays. -/
theorem Bx.cellsA {w : World} {g t : Nat} {v0 v1 v2 v3 v4 v5 v6 : Value} (hb : Bx w g t #[v0, v1, v2, v3, v4, v5, v6]) :
    (∀ o, (w.alloc o).cell? ⟨g, 0, none⟩ = some v0) ∧ (∀ o, (w.alloc o).cell? ⟨g, 1, none⟩ = some v1) ∧ (∀ o, (w.alloc o).cell? ⟨g, 2, none⟩ = some v2) ∧ (∀ o, (w.alloc o).cell? ⟨g, 3, none⟩ = some v3) ∧ (∀ o, (w.alloc o).cell? ⟨g, 4, none⟩ = some v4) ∧ (∀ o, (w.alloc o).cell? ⟨g, 5, none⟩ = some v5) ∧ (∀ o, (w.alloc o).cell? ⟨g, 6, none⟩ = some v6) :=
  ⟨fun o => (hb.below (below_alloc (Below.refl _ _) o)).cells.1, fun o => (hb.below (below_alloc (Below.refl _ _) o)).cells.2.1, fun o => (hb.below (below_alloc (Below.refl _ _) o)).cells.2.2.1, fun o => (hb.below (below_alloc (Below.refl _ _) o)).cells.2.2.2.1, fun o => (hb.below (below_alloc (Below.refl _ _) o)).cells.2.2.2.2.1, fun o => (hb.below (below_alloc (Below.refl _ _) o)).cells.2.2.2.2.2.1, fun o => (hb.below (below_alloc (Below.refl _ _) o)).cells.2.2.2.2.2.2⟩
theorem Bx.fz {w : World} {g t : Nat} {cs : Array Value} (hb : Bx w g t cs) (i : Nat) : w.frozen? ⟨g, i, none⟩ = false := blk_frozen hb i
theorem Put.at_ {w : World} {a b g : Nat} {l : List Int} (p : Put w a b g l) {i : Nat} (hi : i < l.length) : w.cell? ⟨g, i, none⟩ = some (.int .i64 (l.getD i 0)) := by
  rw [p.rd i hi, List.getD_eq_getElem?_getD, List.getElem?_eq_getElem hi]
  rfl
theorem mix2_getD {α : Type} {zs xs : List α} (hl : zs.length = xs.length) {n : Nat} (hn : n < xs.length) (d : α) : (mix2 zs xs n).getD n d = xs.getD n d := by
  have h1 : n < (mix2 zs xs n).length := by rw [mix2_length hl]; exact hn
  rw [List.getD_eq_getElem?_getD, List.getD_eq_getElem?_getD, List.getElem?_eq_getElem h1, List.getElem?_eq_getElem hn, mix2_get hl n hn]
theorem mix2_setD {α : Type} {zs xs : List α} (hl : zs.length = xs.length) {n : Nat} (hn : n < xs.length) (d : α) : (mix2 zs xs n).set n (zs.getD n d) = mix2 zs xs (n + 1) := by
  have e : zs.getD n d = zs[n]'(by omega) := by
    rw [List.getD_eq_getElem?_getD, List.getElem?_eq_getElem (by omega)]
    rfl
  rw [e, mix2_set hl n hn]
/-- Row i of rows that are read. -/
theorem rows_at {w : World} {A : Option Addr} {n : Nat} {xs : List (List Int)} (h : (Kd.slice 3 (Kd.int .i64)).C w A n xs) (i : Nat) (hi : i < n) : ∃ ad A0 c0, A = some ad ∧ w.cell? (ad.add i) = some (.slice A0 (xs.getD i []).length c0) ∧ (Kd.int .i64).C w A0 (xs.getD i []).length (xs.getD i []) := by
  obtain ⟨ad, c, e, _, hK, hc⟩ := Kd.C_get h ([] : List Int) (i : Int) (by omega) (by omega)
  obtain ⟨A0, c0, rfl, _, hC⟩ := hK
  have h1 := hc 0 _ rfl
  have hs : (Kd.slice 3 (Kd.int .i64)).sz = 1 := rfl
  rw [Int.toNat_natCast] at h1 hC
  rw [hs, Nat.mul_one, Nat.add_zero] at h1
  exact ⟨ad, A0, c0, e, h1, hC⟩
theorem ints_at {w : World} {A : Option Addr} {n : Nat} {xs : List Int} (h : (Kd.int .i64).C w A n xs) (i : Nat) (hi : i < n) : ∃ ad, A = some ad ∧ w.cell? (ad.add i) = some (.int .i64 (xs.getD i 0)) := by
  obtain ⟨ad, e, hc⟩ := Kd.at_int h (i : Int) (by omega) (by omega)
  rw [Int.toNat_natCast] at hc
  refine ⟨ad, e, hc.trans ?_⟩
  unfold rd
  rw [Int.toNat_natCast]
theorem set_same {α : Type} {xs : List α} {i : Nat} (hi : i < xs.length) (d : α) : xs.set i (xs.getD i d) = xs := by
  rw [List.getD_eq_getElem?_getD, List.getElem?_eq_getElem hi]
  exact List.set_getElem_self hi
theorem set_getD {α : Type} {xs : List α} {i : Nat} (hi : i < xs.length) (v d : α) : (xs.set i v).getD i d = v := by
  rw [List.getD_eq_getElem?_getD, List.getElem?_eq_getElem (by rw [List.length_set]; exact hi), List.getElem_set_self]
  rfl
/-! ### a sketch that is written beside boxes -/
structure MInv (w wr : World) (a b gb go g6 : Nat) (x y z : Sl) (BB B6 : Array Value) (h r : List Int) (R : List (List Int)) : Prop where
  S : Sk wr a b x y z h r R
  B : Bx wr gb 26 BB
  O : Bx wr go 26 #[.int .i64 0, .int .i64 0, .int .i64 0, .int .i64 0, .slice none 0 0, .slice none 0 0, .slice none 0 0]
  X : Bx wr g6 26 B6
  L : Below w.heap.size w wr
  o1 : gb < a
  o2 : go < a
  o3 : b ≤ g6
  o4 : w.heap.size ≤ a
section
variable {w wr w' : World} {a b gb go g6 : Nat} {x y z : Sl} {BB B6 : Array Value} {h r : List Int} {R : List (List Int)}
theorem MInv.below (m : MInv w wr a b gb go g6 x y z BB B6 h r R) (hb : Below wr.heap.size wr w') : MInv w w' a b gb go g6 x y z BB B6 h r R :=
  ⟨m.S.below hb, m.B.below hb, m.O.below hb, m.X.below hb, below_step m.L hb, m.o1, m.o2, m.o3, m.o4⟩
theorem MInv.kp (m : MInv w wr a b gb go g6 x y z BB B6 h r R) (k : Kp wr w' a b) {h1 r1 : List Int} {R1 : List (List Int)} (s : Sk w' a b x y z h1 r1 R1) : MInv w w' a b gb go g6 x y z BB B6 h1 r1 R1 :=
  ⟨s, m.B.kp k (.inl m.o1), m.O.kp k (.inl m.o2), m.X.kp k (.inr m.o3), below_kp m.L k m.o4 m.L.size, m.o1, m.o2, m.o3, m.o4⟩
theorem MInv.ne6 (m : MInv w wr a b gb go g6 x y z BB B6 h r R) {g : Nat} {l : List Int} (p : Put wr a b g l) : g6 ≠ g ∧ g ≠ g6 ∧ gb ≠ g ∧ g ≠ gb := by
  have := m.o1
  have := m.o3
  have := p.lo
  have := p.hi
  omega
end
/-- A result's box is filled. -/
theorem Bx.fill {w : World} {g t : Nat} {a0 a1 a2 a3 a4 a5 a6 : Value} (hb : Bx w g t #[a0, a1, a2, a3, a4, a5, a6]) (v0 v1 v2 v3 v4 v5 v6 : Value) :
    Bx (((((((w.setCell ⟨g, 0, none⟩ v0).setCell ⟨g, 1, none⟩ v1).setCell ⟨g, 2, none⟩ v2).setCell ⟨g, 3, none⟩ v3).setCell ⟨g, 4, none⟩ v4).setCell ⟨g, 5, none⟩ v5).setCell ⟨g, 6, none⟩ v6) g t #[v0, v1, v2, v3, v4, v5, v6] ∧
    Kp w (((((((w.setCell ⟨g, 0, none⟩ v0).setCell ⟨g, 1, none⟩ v1).setCell ⟨g, 2, none⟩ v2).setCell ⟨g, 3, none⟩ v3).setCell ⟨g, 4, none⟩ v4).setCell ⟨g, 5, none⟩ v5).setCell ⟨g, 6, none⟩ v6) g (g + 1) := by
  have hg : g ≤ g ∧ g < g + 1 := ⟨Nat.le_refl _, Nat.lt_succ_self _⟩
  refine ⟨?_, ((((((Kp.set hg v0).trans (Kp.set hg v1)).trans (Kp.set hg v2)).trans (Kp.set hg v3)).trans (Kp.set hg v4)).trans (Kp.set hg v5)).trans (Kp.set hg v6)⟩
  have h0 : Bx (w.setCell ⟨g, 0, none⟩ v0) g t #[v0, a1, a2, a3, a4, a5, a6] := blk_put hb 0 _ rfl
  have h1 : Bx _ g t #[v0, v1, a2, a3, a4, a5, a6] := blk_put h0 1 v1 rfl
  have h2 : Bx _ g t #[v0, v1, v2, a3, a4, a5, a6] := blk_put h1 2 v2 rfl
  have h3 : Bx _ g t #[v0, v1, v2, v3, a4, a5, a6] := blk_put h2 3 v3 rfl
  have h4 : Bx _ g t #[v0, v1, v2, v3, v4, a5, a6] := blk_put h3 4 v4 rfl
  have h5 : Bx _ g t #[v0, v1, v2, v3, v4, v5, a6] := blk_put h4 5 v5 rfl
  exact blk_put h5 6 v6 rfl
/-- What a call hands back: a sketch of its own, and whether it went well. -/
def SkOut (w : World) (c s lo hi : Int) (h r : List Int) (R : List (List Int)) (t : Bool) (e : Ending) (w' : World) : Prop :=
  ∃ (x y z : Sl) (a b : Nat), e = .returned (.tuple #[.agg #[.int .i64 c, .int .i64 s, .int .i64 lo, .int .i64 hi, .slice x.A x.n x.c, .slice y.A y.n y.c, .slice z.A z.n z.c], .bool t]) ∧ Sk w' a b x y z h r R ∧ (w.heap.size ≤ a ∧ a ≤ b ∧ b ≤ w'.heap.size) ∧ Below w.heap.size w w'
theorem MInv.out {w wr : World} {a b gb go g6 : Nat} {x y z : Sl} {BB B6 : Array Value} {h r : List Int} {R : List (List Int)} (m : MInv w wr a b gb go g6 x y z BB B6 h r R) (hgo : w.heap.size ≤ go) (hab : a ≤ b) (c s lo hi : Int) (t : Bool) :
    SkOut w c s lo hi h r R t (.returned (.tuple #[.agg #[.int .i64 c, .int .i64 s, .int .i64 lo, .int .i64 hi, .slice x.A x.n x.c, .slice y.A y.n y.c, .slice z.A z.n z.c], .bool t]))
      (((((((wr.setCell ⟨go, 0, none⟩ (.int .i64 c)).setCell ⟨go, 1, none⟩ (.int .i64 s)).setCell ⟨go, 2, none⟩ (.int .i64 lo)).setCell ⟨go, 3, none⟩ (.int .i64 hi)).setCell ⟨go, 4, none⟩ (.slice x.A x.n x.c)).setCell ⟨go, 5, none⟩ (.slice y.A y.n y.c)).setCell ⟨go, 6, none⟩ (.slice z.A z.n z.c)) := by
  have k := (m.O.fill (.int .i64 c) (.int .i64 s) (.int .i64 lo) (.int .i64 hi) (.slice x.A x.n x.c) (.slice y.A y.n y.c) (.slice z.A z.n z.c)).2
  have o2 := m.o2
  refine ⟨x, y, z, a, b, rfl, m.S.kp k (.inl (by omega)), ⟨m.o4, hab, Nat.le_trans ?_ k.kept.1⟩, below_kp m.L k hgo m.L.size⟩
  have := m.o3
  have := m.X.lt
  omega
theorem Sk.kd {w : World} {a b base : Nat} {x y z : Sl} {h r : List Int} {R : List (List Int)} (s : Sk w a b x y z h r R) (hb : base ≤ a) :
    Kd.R (Kd.int .i64) 3 w base (fun k => some k ≠ (Value.slice y.A y.n y.c).ownBlock) (.slice x.A x.n x.c) h ∧ Kd.R (Kd.int .i64) 3 w base (fun k => some k ≠ (Value.slice x.A x.n x.c).ownBlock) (.slice y.A y.n y.c) r ∧
    Kd.S (Kd.slice 3 (Kd.int .i64)) 23 w base (fun k => some k ≠ (Value.slice x.A x.n x.c).ownBlock ∧ some k ≠ (Value.slice y.A y.n y.c).ownBlock) (.slice z.A z.n z.c) R := by
  obtain ⟨s1, s2, s3⟩ := s
  exact ⟨Kd.R_lower (Kd.R_reok rfl s1 (fun k hk e => (s2.1 k e.symm).2 hk.symm)) hb, Kd.R_lower (Kd.R_mono s2 (fun _ hk => hk.2)) hb, Kd.S_lower (Kd.S_mono s3 (fun _ hk => hk.2)) hb⟩
theorem Sk.nil (w : World) (a b : Nat) : Sk w a b ⟨none, 0, 0⟩ ⟨none, 0, 0⟩ ⟨none, 0, 0⟩ [] [] [] := ⟨Kd.R_nil _ _ _ _ _, Kd.R_nil _ _ _ _ _, Kd.S_nil _ _ _ _ _⟩
/-- A store into the box of what is written. -/
theorem MInv.set6 {w wr : World} {a b gb go g6 : Nat} {x y z : Sl} {BB B6 B6' : Array Value} {h r : List Int} {R : List (List Int)} (m : MInv w wr a b gb go g6 x y z BB B6 h r R) (hab : a ≤ b) (i : Nat) (v : Value) (he : B6.setIfInBounds i v = B6') : MInv w (wr.setCell ⟨g6, i, none⟩ v) a b gb go g6 x y z BB B6' h r R := by
  have k : Kp wr (wr.setCell ⟨g6, i, none⟩ v) g6 (g6 + 1) := Kp.set ⟨Nat.le_refl _, Nat.lt_succ_self _⟩ v
  have o1 := m.o1
  have o2 := m.o2
  have o3 := m.o3
  have o4 := m.o4
  exact ⟨m.S.kp k (.inr (by omega)), m.B.kp k (.inl (by omega)), m.O.kp k (.inl (by omega)), blk_put m.X i v he, below_kp m.L k (by omega) m.L.size, o1, o2, o3, o4⟩
/-- What a cell holds, as a number. -/
def cellI (w : World) (g i : Nat) : Int := match w.cell? ⟨g, i, none⟩ with | some (.int .i64 z) => z | _ => 0
theorem cellI_of {w : World} {g i : Nat} {v : Int} (h : w.cell? ⟨g, i, none⟩ = some (.int .i64 v)) : cellI w g i = v := by
  unfold cellI
  rw [h]
theorem cellI_own {w : World} {g i : Nat} {v : Int} (h : w.cell? ⟨g, i, none⟩ = some (.int .i64 v)) : w.cell? ⟨g, i, none⟩ = some (.int .i64 (cellI w g i)) := by rw [cellI_of h]; exact h
theorem Put.at_v {w : World} {a b g : Nat} {l : List Int} {v : Int} (p : Put w a b g l) {i : Nat} (hi : i < l.length) (e : l.getD i 0 = v) : w.cell? ⟨g, i, none⟩ = some (.int .i64 v) := by
  rw [← e]
  exact p.at_ hi
/-! ### two sketches that are read, beside boxes: what a region loads -/
theorem rows2 {w : World} {A : Option Addr} {c : Nat} {R : List (List Int)} (h : (Kd.slice 3 (Kd.int .i64)).C w A R.length R) (hR : R.length = 2) :
    ∃ ad B0 e0 B1 e1, A = some ad ∧ w.cell? (ad.add 0) = some (.slice B0 (R.getD 0 []).length e0) ∧ w.cell? (ad.add 1) = some (.slice B1 (R.getD 1 []).length e1) ∧ (R.getD 0 []).length ≤ e0 ∧ (R.getD 1 []).length ≤ e1 ∧ (Kd.int .i64).C w B0 (R.getD 0 []).length (R.getD 0 []) ∧ (Kd.int .i64).C w B1 (R.getD 1 []).length (R.getD 1 []) := by
  have key : ∀ i : Nat, i < 2 → ∃ ad B e, A = some ad ∧ w.cell? (ad.add i) = some (.slice B (R.getD i []).length e) ∧ (R.getD i []).length ≤ e ∧ (Kd.int .i64).C w B (R.getD i []).length (R.getD i []) := by
    intro i hi
    obtain ⟨ad, c, e, _, hK, hc⟩ := Kd.C_get h ([] : List Int) (i : Int) (by omega) (by omega)
    obtain ⟨A0, c0, rfl, hl, hC⟩ := hK
    have h1 := hc 0 _ rfl
    have hs : (Kd.slice 3 (Kd.int .i64)).sz = 1 := rfl
    rw [Int.toNat_natCast] at h1 hC hl
    rw [hs, Nat.mul_one, Nat.add_zero] at h1
    exact ⟨ad, A0, c0, e, h1, hl, hC⟩
  obtain ⟨ad, B0, e0, ha, h1, h2, h3⟩ := key 0 (by omega)
  obtain ⟨ad', B1, e1, ha', h4, h5, h6⟩ := key 1 (by omega)
  rw [ha] at ha'
  injection ha' with ha'
  subst ha'
  exact ⟨ad, B0, e0, B1, e1, ha, h1, h4, h2, h5, h3, h6⟩
/-- The rows of a literal, as a row of rows of one's own. -/
theorem lit_S {W : World} {base p0 p1 gl : Nat} {c0 c1 : Nat} {v0 v1 : Value} {l0 l1 : List Int} {ok : Nat → Prop} (e0 : v0 = .slice (some ⟨p0, 0, none⟩) l0.length c0) (e1 : v1 = .slice (some ⟨p1, 0, none⟩) l1.length c1)
    (hg : W.heap[gl]? = some (.cells #[v0, v1] 23 (0, 0))) (h0 : Kd.R (Kd.int .i64) 3 W base (fun k => k = p0) v0 l0) (h1 : Kd.R (Kd.int .i64) 3 W base (fun k => k = p1) v1 l1)
    (hn : p0 ≠ p1 ∧ p0 ≠ gl ∧ p1 ≠ gl) (hb : base ≤ gl) (ho : ok p0 ∧ ok p1 ∧ ok gl) : Kd.S (Kd.slice 3 (Kd.int .i64)) 23 W base ok (.slice (some ⟨gl, 0, none⟩) 2 2) [l0, l1] := by
  have hM : ∀ (j : Nat) (x : List Int), [l0, l1][j]? = some x → (Kd.slice 3 (Kd.int .i64)).M W base (fun k => k = (if j = 0 then p0 else p1)) x (([v0, v1].drop (j * 1)).take 1) := by
    intro j x hj
    match j, hj with
    | 0, hj => simp at hj; subst hj; exact ⟨_, rfl, h0⟩
    | 1, hj => simp at hj; subst hj; exact ⟨_, rfl, h1⟩
    | j + 2, hj => simp at hj
  obtain ⟨f, hr⟩ := Kd.reps_tag (d := Kd.slice 3 (Kd.int .i64)) (w := W) (base := base) (ok := fun k => ok k ∧ some k ≠ (Value.slice (some ⟨gl, 0, none⟩) 2 2).ownBlock) (xs := [l0, l1]) (inner := [v0, v1])
    (fun j k => k = (if j = 0 then p0 else p1) ∧ j < 2) (fun i j k hi hj => by
      obtain ⟨hi, hi2⟩ := hi
      obtain ⟨hj, hj2⟩ := hj
      rw [hi] at hj
      by_cases e1 : i = 0 <;> by_cases e2 : j = 0 <;> simp [e1, e2] at hj <;> omega) (fun j k hk => by
      obtain ⟨hk, _⟩ := hk
      subst hk
      simp only [Value.ownBlock, Option.map_some, ne_eq, Option.some.injEq]
      split
      · exact ⟨ho.1, hn.2.1⟩
      · exact ⟨ho.2.1, hn.2.2⟩) rfl (fun j x hj => by
      have hlt : j < 2 := (List.getElem?_eq_some_iff.1 hj).1
      exact (Kd.slice 3 (Kd.int .i64)).M_mono (fun k hk => ⟨hk, hlt⟩) (hM j x hj))
  exact ⟨f, fun k hk => by
    have : gl = k := by simpa [Value.ownBlock] using hk
    subst this
    exact ho.2.2, _, ⟨rfl, .inr ⟨gl, 2, _, rfl, hb, hg, Nat.le_refl _, by simp [maxLen], rfl, rfl⟩⟩, hr⟩

/-- Numbers of one's own, by the blocks that they lie in. -/
def Iv (w : World) (a b : Nat) (v : Sl) (l : List Int) : Prop := Kd.R (Kd.int .i64) 3 w a (fun k => k < b) (.slice v.A v.n v.c) l
section
variable {w w1 : World} {a b a' b' : Nat} {v : Sl} {l : List Int}
theorem Iv.step (s : Iv w a b v l) (hm : ∀ k, a ≤ k → k < b → k < w.heap.size → w1.heap[k]? = w.heap[k]?) : Iv w1 a b v l := Kd.R_mono (Kd.R_move (Kd.R_bound s) (fun k hk => hm k hk.2.1 hk.1 hk.2.2.1)) (fun _ hk => hk.1)
theorem Iv.below (s : Iv w a b v l) (hb : Below w.heap.size w w1) : Iv w1 a b v l := s.step (fun k _ _ hl => hb.block k hl)
theorem Iv.kp (s : Iv w a' b' v l) (k : Kp w w1 a b) (ha : b ≤ a' ∨ b' ≤ a) : Iv w1 a' b' v l := s.step (fun i h1 h2 h3 => k.kept.2 i h3 (fun hs => by omega))
theorem Kp.kp {w w1 w' : World} {a b a' b' : Nat} (h : Kp w w1 a b) (k : Kp w1 w' a' b') (hc : (a ≤ a' ∧ b' ≤ b) ∨ w.heap.size ≤ a') : Kp w w' a b :=
  ⟨k.os.trans h.os, k.tape.trans h.tape, k.output.trans h.output, ⟨Nat.le_trans h.kept.1 k.kept.1, fun i hi hs => (k.kept.2 i (Nat.lt_of_lt_of_le hi h.kept.1) (fun hk => by omega)).trans (h.kept.2 i hi hs)⟩⟩
end
theorem num_callD (k : Nat) {w : World} {g c : Nat} {A : Option Addr} {l : List Int} (a : Int) (bad : Bool) (N : Int → Int × Int × Bool) (v a' : Int) (b' : Bool) (q : rdV bad (N a) = v ∧ rdA bad a (N a) = a' ∧ rdB bad (N a) = b') (B : Bx w g 64 #[.slice A l.length c, .int .i64 a, .bool bad]) (C : (Kd.int .u8).C w A l.length l) (lc : l.length ≤ c) (he : ∀ a, impl_GetNum.f k l a = some (N a)) :
    Calls Try.prog 82 #[.pointer (some ⟨g, 0, none⟩)] w fun e w' => e = .returned (.int .i64 v) ∧ Bx w' g 64 #[.slice A l.length c, .int .i64 a', .bool b'] ∧ Kp w w' g (g + 1) := by
  obtain ⟨rfl, rfl, rfl⟩ := q
  exact num_call k a bad (N a) B C lc (he a)
theorem nums_callD (k : Nat) {w : World} {g c : Nat} {A : Option Addr} {l : List Int} (m : Nat) (mi : Int) (hmi : mi = (m : Int)) (hm : m ≤ 100) (a : Int) (bad : Bool) (N : Int → Int × Int × Bool) (fl : List Int) (fb : Bool) (fa : Int) (hf : rdNums N m bad a = (fl, fb, fa)) (B : Bx w g 64 #[.slice A l.length c, .int .i64 a, .bool bad]) {W0 : World} (C : (Kd.int .u8).C W0 A l.length l) (hB : Below W0.heap.size W0 w) (hg : W0.heap.size ≤ g) (lc : l.length ≤ c) (he : ∀ a, impl_GetNum.f k l a = some (N a)) :
    Calls Try.prog 83 #[.pointer (some ⟨g, 0, none⟩), .int .i64 mi] w fun e w' => ∃ (v : Sl) (a1 b1 : Nat), e = .returned (.slice v.A v.n v.c) ∧ Iv w' a1 b1 v fl ∧ Made w w' a1 b1 ∧ Bx w' g 64 #[.slice A l.length c, .int .i64 fa, .bool fb] ∧ Kp w w' g (g + 1) := by
  refine (nums_call k m mi hmi hm a bad N fl fb fa hf B C hB hg lc he).mono ?_
  rintro e w' ⟨v, rfl, hR, hX, hK⟩
  obtain ⟨A1, c1, rfl⟩ := Kd.R_slice hR
  exact ⟨⟨A1, _, c1⟩, w.heap.size, w'.heap.size, rfl, Kd.R_mono (Kd.R_bound hR) (fun _ hk => hk.2.2.1), ⟨Nat.le_refl _, hK.kept.1, Nat.le_refl _⟩, hX, hK⟩
set_option maxHeartbeats 8000000 in
theorem sketch_call (k : Nat) {w : World} {g c : Nat} {A : Option Addr} {l : List Int} (N : Int → Int × Int × Bool) (a0 a1 a2 a3 a4 a5 a6 a7 a8 v1 v2 v3 v4 : Int) (b0 b1 b2 b3 b4 b5 b6 b7 b8 : Bool) (l5 l6 l7 l8 : List Int)
    (q1 : Aside0 (rdV b0 (N a0) = v1 ∧ rdA b0 a0 (N a0) = a1 ∧ rdB b0 (N a0) = b1)) (q2 : Aside0 (rdV b1 (N a1) = v2 ∧ rdA b1 a1 (N a1) = a2 ∧ rdB b1 (N a1) = b2)) (q3 : Aside0 (rdV b2 (N a2) = v3 ∧ rdA b2 a2 (N a2) = a3 ∧ rdB b2 (N a2) = b3)) (q4 : Aside0 (rdV b3 (N a3) = v4 ∧ rdA b3 a3 (N a3) = a4 ∧ rdB b3 (N a3) = b4))
    (q5 : Aside0 (rdNums N 8 b4 a4 = (l5, b5, a5))) (q6 : Aside0 (rdNums N 8 b5 a5 = (l6, b6, a6))) (q7 : Aside0 (rdNums N 4 b6 a6 = (l7, b7, a7))) (q8 : Aside0 (rdNums N 4 b7 a7 = (l8, b8, a8)))
    (RD0 : Aside0 (Bx w g 64 #[.slice A l.length c, .int .i64 a0, .bool b0])) {W0 : World} (U0 : Aside0 ((Kd.int .u8).C W0 A l.length l)) (HB0 : Aside0 (Below W0.heap.size W0 w)) (G0 : Aside0 (W0.heap.size ≤ g)) (L0 : Aside0 (l.length ≤ c)) (E0 : Aside0 (∀ a, impl_GetNum.f k l a = some (N a))) :
    Calls Try.prog 42 #[.pointer (some ⟨g, 0, none⟩)] w fun e w' => ∃ (u5 u6 u7 u8 : Sl) (gl c5 d5 c6 d6 c7 d7 c8 d8 : Nat), e = .returned (.agg #[.int .i64 v1, .int .i64 v2, .int .i64 v3,   .int .i64 v4, .slice u5.A u5.n u5.c, .slice u6.A u6.n u6.c, .slice (some ⟨gl, 0, none⟩) 2 2]) ∧ Iv w' c5 d5 u5 l5 ∧ Iv w' c6 d6 u6 l6 ∧ Iv w' c7 d7 u7 l7 ∧ Iv w' c8 d8 u8 l8 ∧ Bx w' gl 23 #[.slice u7.A u7.n u7.c, .slice u8.A u8.n u8.c] ∧
      (w.heap.size ≤ c5 ∧ d5 ≤ c6 ∧ d6 ≤ c7 ∧ d7 ≤ c8 ∧ d8 ≤ gl ∧ c5 ≤ d5 ∧ c6 ≤ d6 ∧ c7 ≤ d7 ∧ c8 ≤ d8) ∧ Bx w' g 64 #[.slice A l.length c, .int .i64 a8, .bool b8] ∧ Kp w w' g (g + 1) := by
  have KP0 := Aside0.mk (Kp.refl w g (g + 1))
  have Z_0 := Aside0.mk (show g < w.heap.size from RD0.out.lt)
  have Z_1 := Aside0.mk (show W0.heap.size ≤ g from G0.out)
  go_enter Try.func42, Try.ntmps42
  have rd_1 := Aside0.mk (RD0.out.below (below_alloc (Below.refl _ w) (.cells #[.int .i64 0, .int .i64 0, .int .i64 0, .int .i64 0, .slice none 0 0, .slice none 0 0, .slice none 0 0] 26)))
  have kp_2 := Aside0.mk (KP0.out.below (below_alloc (Below.refl _ w) (.cells #[.int .i64 0, .int .i64 0, .int .i64 0, .int .i64 0, .slice none 0 0, .slice none 0 0, .slice none 0 0] 26)))
  have HB_3 := Aside0.mk (below_step HB0.out (below_alloc (Below.refl _ w) (.cells #[.int .i64 0, .int .i64 0, .int .i64 0, .int .i64 0, .slice none 0 0, .slice none 0 0, .slice none 0 0] 26)))
  have Z_4 := Aside0.mk (show (w.alloc (.cells #[.int .i64 0, .int .i64 0, .int .i64 0, .int .i64 0, .slice none 0 0, .slice none 0 0, .slice none 0 0] 26)).heap.size = w.heap.size + 1 by simp)
  have bo_5 := Aside0.mk (Bx.new w 26 #[.int .i64 0, .int .i64 0, .int .i64 0, .int .i64 0, .slice none 0 0, .slice none 0 0, .slice none 0 0])
  clear RD0 KP0 HB0
  go_wp2_with fail
  refine (num_callD k a0 b0 N v1 a1 b1 q1.out rd_1.out (Kd.C_below U0.out HB_3.out) L0.out E0.out).mono ?_
  rintro e w1 ⟨rfl, hB, hk⟩
  have rd_6 := Aside0.mk hB
  clear hB
  clear rd_1
  have kp_7 := Aside0.mk (kp_2.out.kp hk (by have := Z_0.out; have := Z_1.out; have := Z_4.out; omega))
  have bo_8 := Aside0.mk (bo_5.out.kp hk (by have := Z_0.out; have := Z_1.out; have := Z_4.out; omega))
  have HB_9 := Aside0.mk (below_kp HB_3.out hk (by have := Z_0.out; have := Z_1.out; have := Z_4.out; omega) HB_3.out.size)
  have Z_10 := Aside0.mk (hk.kept.1)
  clear kp_2 bo_5 HB_3 hk
  go_wp2_with fail
  refine (num_callD k a1 b1 N v2 a2 b2 q2.out rd_6.out (Kd.C_below U0.out HB_9.out) L0.out E0.out).mono ?_
  rintro e w2 ⟨rfl, hB, hk⟩
  have rd_11 := Aside0.mk hB
  clear hB
  clear rd_6
  have kp_12 := Aside0.mk (kp_7.out.kp hk (by have := Z_0.out; have := Z_1.out; have := Z_4.out; have := Z_10.out; omega))
  have bo_13 := Aside0.mk (bo_8.out.kp hk (by have := Z_0.out; have := Z_1.out; have := Z_4.out; have := Z_10.out; omega))
  have HB_14 := Aside0.mk (below_kp HB_9.out hk (by have := Z_0.out; have := Z_1.out; have := Z_4.out; have := Z_10.out; omega) HB_9.out.size)
  have Z_15 := Aside0.mk (hk.kept.1)
  clear kp_7 bo_8 HB_9 hk
  go_wp2_with fail
  refine (num_callD k a2 b2 N v3 a3 b3 q3.out rd_11.out (Kd.C_below U0.out HB_14.out) L0.out E0.out).mono ?_
  rintro e w3 ⟨rfl, hB, hk⟩
  have rd_16 := Aside0.mk hB
  clear hB
  clear rd_11
  have kp_17 := Aside0.mk (kp_12.out.kp hk (by have := Z_0.out; have := Z_1.out; have := Z_4.out; have := Z_10.out; have := Z_15.out; omega))
  have bo_18 := Aside0.mk (bo_13.out.kp hk (by have := Z_0.out; have := Z_1.out; have := Z_4.out; have := Z_10.out; have := Z_15.out; omega))
  have HB_19 := Aside0.mk (below_kp HB_14.out hk (by have := Z_0.out; have := Z_1.out; have := Z_4.out; have := Z_10.out; have := Z_15.out; omega) HB_14.out.size)
  have Z_20 := Aside0.mk (hk.kept.1)
  clear kp_12 bo_13 HB_14 hk
  go_wp2_with fail
  refine (num_callD k a3 b3 N v4 a4 b4 q4.out rd_16.out (Kd.C_below U0.out HB_19.out) L0.out E0.out).mono ?_
  rintro e w4 ⟨rfl, hB, hk⟩
  have rd_21 := Aside0.mk hB
  clear hB
  clear rd_16
  have kp_22 := Aside0.mk (kp_17.out.kp hk (by have := Z_0.out; have := Z_1.out; have := Z_4.out; have := Z_10.out; have := Z_15.out; have := Z_20.out; omega))
  have bo_23 := Aside0.mk (bo_18.out.kp hk (by have := Z_0.out; have := Z_1.out; have := Z_4.out; have := Z_10.out; have := Z_15.out; have := Z_20.out; omega))
  have HB_24 := Aside0.mk (below_kp HB_19.out hk (by have := Z_0.out; have := Z_1.out; have := Z_4.out; have := Z_10.out; have := Z_15.out; have := Z_20.out; omega) HB_19.out.size)
  have Z_25 := Aside0.mk (hk.kept.1)
  clear kp_17 bo_18 HB_19 hk
  have kp_26 := Aside0.mk (kp_22.out.below (below_alloc (Below.refl _ w4) (.cells #[.int .i64 v1, .int .i64 v2, .int .i64 v3, .int .i64 v4, .slice none 0 0, .slice none 0 0, .slice none 0 0] 26)))
  have bo_27 := Aside0.mk (bo_23.out.below (below_alloc (Below.refl _ w4) (.cells #[.int .i64 v1, .int .i64 v2, .int .i64 v3, .int .i64 v4, .slice none 0 0, .slice none 0 0, .slice none 0 0] 26)))
  have rd_28 := Aside0.mk (rd_21.out.below (below_alloc (Below.refl _ w4) (.cells #[.int .i64 v1, .int .i64 v2, .int .i64 v3, .int .i64 v4, .slice none 0 0, .slice none 0 0, .slice none 0 0] 26)))
  have HB_29 := Aside0.mk (below_step HB_24.out (below_alloc (Below.refl _ w4) (.cells #[.int .i64 v1, .int .i64 v2, .int .i64 v3, .int .i64 v4, .slice none 0 0, .slice none 0 0, .slice none 0 0] 26)))
  have Z_30 := Aside0.mk (show (w4.alloc (.cells #[.int .i64 v1, .int .i64 v2, .int .i64 v3, .int .i64 v4, .slice none 0 0, .slice none 0 0, .slice none 0 0] 26)).heap.size = w4.heap.size + 1 by simp)
  have b3_31 := Aside0.mk (Bx.new w4 26 #[.int .i64 v1, .int .i64 v2, .int .i64 v3, .int .i64 v4, .slice none 0 0, .slice none 0 0, .slice none 0 0])
  clear kp_22 bo_23 rd_21 HB_24
  go_wp2_with fail
  refine (nums_callD k 8 8 rfl (by omega) a4 b4 N l5 b5 a5 q5.out rd_28.out U0.out HB_29.out G0.out L0.out E0.out).mono ?_
  rintro e w5 ⟨u5, c5, d5, rfl, hR, hM, hB, hk⟩
  have rd_32 := Aside0.mk hB
  clear hB
  have l5_33 := Aside0.mk hR
  clear hR
  have Z_34 := Aside0.mk hM
  clear hM
  unfold Made at Z_34
  clear rd_28
  have kp_35 := Aside0.mk (kp_26.out.kp hk (by have := Z_0.out; have := Z_1.out; have := Z_4.out; have := Z_10.out; have := Z_15.out; have := Z_20.out; have := Z_25.out; have := Z_30.out; have := Z_34.out; omega))
  have bo_36 := Aside0.mk (bo_27.out.kp hk (by have := Z_0.out; have := Z_1.out; have := Z_4.out; have := Z_10.out; have := Z_15.out; have := Z_20.out; have := Z_25.out; have := Z_30.out; have := Z_34.out; omega))
  have b3_37 := Aside0.mk (b3_31.out.kp hk (by have := Z_0.out; have := Z_1.out; have := Z_4.out; have := Z_10.out; have := Z_15.out; have := Z_20.out; have := Z_25.out; have := Z_30.out; have := Z_34.out; omega))
  have HB_38 := Aside0.mk (below_kp HB_29.out hk (by have := Z_0.out; have := Z_1.out; have := Z_4.out; have := Z_10.out; have := Z_15.out; have := Z_20.out; have := Z_25.out; have := Z_30.out; have := Z_34.out; omega) HB_29.out.size)
  have Z_39 := Aside0.mk (hk.kept.1)
  clear kp_26 bo_27 b3_31 HB_29 hk
  obtain ⟨b339c0, b339c1, b339c2, b339c3, b339c4, b339c5, b339c6⟩ := b3_37.out.cells
  have fz41 := b3_37.out.fz
  go_wp2_with fail
  clear b339c0 b339c1 b339c2 b339c3 b339c4 b339c5 b339c6 fz41
  have KS_42 := Aside0.mk (Kp.set (w := w5) (a := w4.heap.size) (b := w4.heap.size + 1) (j := 4) ⟨Nat.le_refl _, Nat.lt_succ_self _⟩ (.slice u5.A u5.n u5.c))
  have kp_43 := Aside0.mk (kp_35.out.kp KS_42.out (by have := Z_0.out; have := Z_1.out; have := Z_4.out; have := Z_10.out; have := Z_15.out; have := Z_20.out; have := Z_25.out; have := Z_30.out; have := Z_34.out; have := Z_39.out; omega))
  have bo_44 := Aside0.mk (bo_36.out.kp KS_42.out (by have := Z_0.out; have := Z_1.out; have := Z_4.out; have := Z_10.out; have := Z_15.out; have := Z_20.out; have := Z_25.out; have := Z_30.out; have := Z_34.out; have := Z_39.out; omega))
  have b3_45 := Aside0.mk (show Bx (w5.setCell ⟨w4.heap.size, 4, none⟩ (.slice u5.A u5.n u5.c)) (w4.heap.size) 26 #[.int .i64 v1, .int .i64 v2, .int .i64 v3, .int .i64 v4, .slice u5.A u5.n u5.c, .slice none 0 0, .slice none 0 0] from blk_put b3_37.out 4 _ rfl)
  have rd_46 := Aside0.mk (rd_32.out.kp KS_42.out (by have := Z_0.out; have := Z_1.out; have := Z_4.out; have := Z_10.out; have := Z_15.out; have := Z_20.out; have := Z_25.out; have := Z_30.out; have := Z_34.out; have := Z_39.out; omega))
  have l5_47 := Aside0.mk (l5_33.out.kp KS_42.out (by have := Z_0.out; have := Z_1.out; have := Z_4.out; have := Z_10.out; have := Z_15.out; have := Z_20.out; have := Z_25.out; have := Z_30.out; have := Z_34.out; have := Z_39.out; omega))
  have HB_48 := Aside0.mk (below_kp HB_38.out KS_42.out (by have := Z_0.out; have := Z_1.out; have := Z_4.out; have := Z_10.out; have := Z_15.out; have := Z_20.out; have := Z_25.out; have := Z_30.out; have := Z_34.out; have := Z_39.out; omega) HB_38.out.size)
  have Z_49 := Aside0.mk (show (w5.setCell ⟨w4.heap.size, 4, none⟩ (.slice u5.A u5.n u5.c)).heap.size = w5.heap.size by simp)
  clear kp_35 bo_36 b3_37 rd_32 l5_33 HB_38 KS_42
  refine (nums_callD k 8 8 rfl (by omega) a5 b5 N l6 b6 a6 q6.out rd_46.out U0.out HB_48.out G0.out L0.out E0.out).mono ?_
  rintro e w6 ⟨u6, c6, d6, rfl, hR, hM, hB, hk⟩
  have rd_50 := Aside0.mk hB
  clear hB
  have l6_51 := Aside0.mk hR
  clear hR
  have Z_52 := Aside0.mk hM
  clear hM
  unfold Made at Z_52
  clear rd_46
  have kp_53 := Aside0.mk (kp_43.out.kp hk (by have := Z_0.out; have := Z_1.out; have := Z_4.out; have := Z_10.out; have := Z_15.out; have := Z_20.out; have := Z_25.out; have := Z_30.out; have := Z_34.out; have := Z_39.out; have := Z_49.out; have := Z_52.out; omega))
  have bo_54 := Aside0.mk (bo_44.out.kp hk (by have := Z_0.out; have := Z_1.out; have := Z_4.out; have := Z_10.out; have := Z_15.out; have := Z_20.out; have := Z_25.out; have := Z_30.out; have := Z_34.out; have := Z_39.out; have := Z_49.out; have := Z_52.out; omega))
  have b3_55 := Aside0.mk (b3_45.out.kp hk (by have := Z_0.out; have := Z_1.out; have := Z_4.out; have := Z_10.out; have := Z_15.out; have := Z_20.out; have := Z_25.out; have := Z_30.out; have := Z_34.out; have := Z_39.out; have := Z_49.out; have := Z_52.out; omega))
  have l5_56 := Aside0.mk (l5_47.out.kp hk (by have := Z_0.out; have := Z_1.out; have := Z_4.out; have := Z_10.out; have := Z_15.out; have := Z_20.out; have := Z_25.out; have := Z_30.out; have := Z_34.out; have := Z_39.out; have := Z_49.out; have := Z_52.out; omega))
  have HB_57 := Aside0.mk (below_kp HB_48.out hk (by have := Z_0.out; have := Z_1.out; have := Z_4.out; have := Z_10.out; have := Z_15.out; have := Z_20.out; have := Z_25.out; have := Z_30.out; have := Z_34.out; have := Z_39.out; have := Z_49.out; have := Z_52.out; omega) HB_48.out.size)
  have Z_58 := Aside0.mk (hk.kept.1)
  clear kp_43 bo_44 b3_45 l5_47 HB_48 hk
  obtain ⟨b358c0, b358c1, b358c2, b358c3, b358c4, b358c5, b358c6⟩ := b3_55.out.cells
  have fz60 := b3_55.out.fz
  go_wp2_with fail
  clear b358c0 b358c1 b358c2 b358c3 b358c4 b358c5 b358c6 fz60
  have KS_61 := Aside0.mk (Kp.set (w := w6) (a := w4.heap.size) (b := w4.heap.size + 1) (j := 5) ⟨Nat.le_refl _, Nat.lt_succ_self _⟩ (.slice u6.A u6.n u6.c))
  have kp_62 := Aside0.mk (kp_53.out.kp KS_61.out (by have := Z_0.out; have := Z_1.out; have := Z_4.out; have := Z_10.out; have := Z_15.out; have := Z_20.out; have := Z_25.out; have := Z_30.out; have := Z_34.out; have := Z_39.out; have := Z_49.out; have := Z_52.out; have := Z_58.out; omega))
  have bo_63 := Aside0.mk (bo_54.out.kp KS_61.out (by have := Z_0.out; have := Z_1.out; have := Z_4.out; have := Z_10.out; have := Z_15.out; have := Z_20.out; have := Z_25.out; have := Z_30.out; have := Z_34.out; have := Z_39.out; have := Z_49.out; have := Z_52.out; have := Z_58.out; omega))
  have b3_64 := Aside0.mk (show Bx (w6.setCell ⟨w4.heap.size, 5, none⟩ (.slice u6.A u6.n u6.c)) (w4.heap.size) 26 #[.int .i64 v1, .int .i64 v2, .int .i64 v3, .int .i64 v4, .slice u5.A u5.n u5.c, .slice u6.A u6.n u6.c, .slice none 0 0] from blk_put b3_55.out 5 _ rfl)
  have l5_65 := Aside0.mk (l5_56.out.kp KS_61.out (by have := Z_0.out; have := Z_1.out; have := Z_4.out; have := Z_10.out; have := Z_15.out; have := Z_20.out; have := Z_25.out; have := Z_30.out; have := Z_34.out; have := Z_39.out; have := Z_49.out; have := Z_52.out; have := Z_58.out; omega))
  have rd_66 := Aside0.mk (rd_50.out.kp KS_61.out (by have := Z_0.out; have := Z_1.out; have := Z_4.out; have := Z_10.out; have := Z_15.out; have := Z_20.out; have := Z_25.out; have := Z_30.out; have := Z_34.out; have := Z_39.out; have := Z_49.out; have := Z_52.out; have := Z_58.out; omega))
  have l6_67 := Aside0.mk (l6_51.out.kp KS_61.out (by have := Z_0.out; have := Z_1.out; have := Z_4.out; have := Z_10.out; have := Z_15.out; have := Z_20.out; have := Z_25.out; have := Z_30.out; have := Z_34.out; have := Z_39.out; have := Z_49.out; have := Z_52.out; have := Z_58.out; omega))
  have HB_68 := Aside0.mk (below_kp HB_57.out KS_61.out (by have := Z_0.out; have := Z_1.out; have := Z_4.out; have := Z_10.out; have := Z_15.out; have := Z_20.out; have := Z_25.out; have := Z_30.out; have := Z_34.out; have := Z_39.out; have := Z_49.out; have := Z_52.out; have := Z_58.out; omega) HB_57.out.size)
  have Z_69 := Aside0.mk (show (w6.setCell ⟨w4.heap.size, 5, none⟩ (.slice u6.A u6.n u6.c)).heap.size = w6.heap.size by simp)
  clear kp_53 bo_54 b3_55 l5_56 rd_50 l6_51 HB_57 KS_61
  refine (nums_callD k 4 4 rfl (by omega) a6 b6 N l7 b7 a7 q7.out rd_66.out U0.out HB_68.out G0.out L0.out E0.out).mono ?_
  rintro e w7 ⟨u7, c7, d7, rfl, hR, hM, hB, hk⟩
  have rd_70 := Aside0.mk hB
  clear hB
  have l7_71 := Aside0.mk hR
  clear hR
  have Z_72 := Aside0.mk hM
  clear hM
  unfold Made at Z_72
  clear rd_66
  have kp_73 := Aside0.mk (kp_62.out.kp hk (by have := Z_0.out; have := Z_1.out; have := Z_4.out; have := Z_10.out; have := Z_15.out; have := Z_20.out; have := Z_25.out; have := Z_30.out; have := Z_34.out; have := Z_39.out; have := Z_49.out; have := Z_52.out; have := Z_58.out; have := Z_69.out; have := Z_72.out; omega))
  have bo_74 := Aside0.mk (bo_63.out.kp hk (by have := Z_0.out; have := Z_1.out; have := Z_4.out; have := Z_10.out; have := Z_15.out; have := Z_20.out; have := Z_25.out; have := Z_30.out; have := Z_34.out; have := Z_39.out; have := Z_49.out; have := Z_52.out; have := Z_58.out; have := Z_69.out; have := Z_72.out; omega))
  have b3_75 := Aside0.mk (b3_64.out.kp hk (by have := Z_0.out; have := Z_1.out; have := Z_4.out; have := Z_10.out; have := Z_15.out; have := Z_20.out; have := Z_25.out; have := Z_30.out; have := Z_34.out; have := Z_39.out; have := Z_49.out; have := Z_52.out; have := Z_58.out; have := Z_69.out; have := Z_72.out; omega))
  have l5_76 := Aside0.mk (l5_65.out.kp hk (by have := Z_0.out; have := Z_1.out; have := Z_4.out; have := Z_10.out; have := Z_15.out; have := Z_20.out; have := Z_25.out; have := Z_30.out; have := Z_34.out; have := Z_39.out; have := Z_49.out; have := Z_52.out; have := Z_58.out; have := Z_69.out; have := Z_72.out; omega))
  have l6_77 := Aside0.mk (l6_67.out.kp hk (by have := Z_0.out; have := Z_1.out; have := Z_4.out; have := Z_10.out; have := Z_15.out; have := Z_20.out; have := Z_25.out; have := Z_30.out; have := Z_34.out; have := Z_39.out; have := Z_49.out; have := Z_52.out; have := Z_58.out; have := Z_69.out; have := Z_72.out; omega))
  have HB_78 := Aside0.mk (below_kp HB_68.out hk (by have := Z_0.out; have := Z_1.out; have := Z_4.out; have := Z_10.out; have := Z_15.out; have := Z_20.out; have := Z_25.out; have := Z_30.out; have := Z_34.out; have := Z_39.out; have := Z_49.out; have := Z_52.out; have := Z_58.out; have := Z_69.out; have := Z_72.out; omega) HB_68.out.size)
  have Z_79 := Aside0.mk (hk.kept.1)
  clear kp_62 bo_63 b3_64 l5_65 l6_67 HB_68 hk
  go_wp2_with fail
  refine (nums_callD k 4 4 rfl (by omega) a7 b7 N l8 b8 a8 q8.out rd_70.out U0.out HB_78.out G0.out L0.out E0.out).mono ?_
  rintro e w8 ⟨u8, c8, d8, rfl, hR, hM, hB, hk⟩
  have rd_80 := Aside0.mk hB
  clear hB
  have l8_81 := Aside0.mk hR
  clear hR
  have Z_82 := Aside0.mk hM
  clear hM
  unfold Made at Z_82
  clear rd_70
  have kp_83 := Aside0.mk (kp_73.out.kp hk (by have := Z_0.out; have := Z_1.out; have := Z_4.out; have := Z_10.out; have := Z_15.out; have := Z_20.out; have := Z_25.out; have := Z_30.out; have := Z_34.out; have := Z_39.out; have := Z_49.out; have := Z_52.out; have := Z_58.out; have := Z_69.out; have := Z_72.out; have := Z_79.out; have := Z_82.out; omega))
  have bo_84 := Aside0.mk (bo_74.out.kp hk (by have := Z_0.out; have := Z_1.out; have := Z_4.out; have := Z_10.out; have := Z_15.out; have := Z_20.out; have := Z_25.out; have := Z_30.out; have := Z_34.out; have := Z_39.out; have := Z_49.out; have := Z_52.out; have := Z_58.out; have := Z_69.out; have := Z_72.out; have := Z_79.out; have := Z_82.out; omega))
  have b3_85 := Aside0.mk (b3_75.out.kp hk (by have := Z_0.out; have := Z_1.out; have := Z_4.out; have := Z_10.out; have := Z_15.out; have := Z_20.out; have := Z_25.out; have := Z_30.out; have := Z_34.out; have := Z_39.out; have := Z_49.out; have := Z_52.out; have := Z_58.out; have := Z_69.out; have := Z_72.out; have := Z_79.out; have := Z_82.out; omega))
  have l5_86 := Aside0.mk (l5_76.out.kp hk (by have := Z_0.out; have := Z_1.out; have := Z_4.out; have := Z_10.out; have := Z_15.out; have := Z_20.out; have := Z_25.out; have := Z_30.out; have := Z_34.out; have := Z_39.out; have := Z_49.out; have := Z_52.out; have := Z_58.out; have := Z_69.out; have := Z_72.out; have := Z_79.out; have := Z_82.out; omega))
  have l6_87 := Aside0.mk (l6_77.out.kp hk (by have := Z_0.out; have := Z_1.out; have := Z_4.out; have := Z_10.out; have := Z_15.out; have := Z_20.out; have := Z_25.out; have := Z_30.out; have := Z_34.out; have := Z_39.out; have := Z_49.out; have := Z_52.out; have := Z_58.out; have := Z_69.out; have := Z_72.out; have := Z_79.out; have := Z_82.out; omega))
  have l7_88 := Aside0.mk (l7_71.out.kp hk (by have := Z_0.out; have := Z_1.out; have := Z_4.out; have := Z_10.out; have := Z_15.out; have := Z_20.out; have := Z_25.out; have := Z_30.out; have := Z_34.out; have := Z_39.out; have := Z_49.out; have := Z_52.out; have := Z_58.out; have := Z_69.out; have := Z_72.out; have := Z_79.out; have := Z_82.out; omega))
  have HB_89 := Aside0.mk (below_kp HB_78.out hk (by have := Z_0.out; have := Z_1.out; have := Z_4.out; have := Z_10.out; have := Z_15.out; have := Z_20.out; have := Z_25.out; have := Z_30.out; have := Z_34.out; have := Z_39.out; have := Z_49.out; have := Z_52.out; have := Z_58.out; have := Z_69.out; have := Z_72.out; have := Z_79.out; have := Z_82.out; omega) HB_78.out.size)
  have Z_90 := Aside0.mk (hk.kept.1)
  clear kp_73 bo_74 b3_75 l5_76 l6_77 l7_71 HB_78 hk
  obtain ⟨b390c0, b390c1, b390c2, b390c3, b390c4, b390c5, b390c6⟩ := b3_85.out.cellsA
  obtain ⟨bo91c0, bo91c1, bo91c2, bo91c3, bo91c4, bo91c5, bo91c6⟩ := bo_84.out.cellsA
  have fb3 := fun (o : Obj) i => Bx.fz (b3_85.out.below (below_alloc (Below.refl _ _) o)) i
  have fbo := fun (o : Obj) i => Bx.fz (bo_84.out.below (below_alloc (Below.refl _ _) o)) i
  have ne93 : w4.heap.size ≠ w.heap.size := by have := Z_0.out; have := Z_1.out; have := Z_4.out; have := Z_10.out; have := Z_15.out; have := Z_20.out; have := Z_25.out; have := Z_30.out; have := Z_34.out; have := Z_39.out; have := Z_49.out; have := Z_52.out; have := Z_58.out; have := Z_69.out; have := Z_72.out; have := Z_79.out; have := Z_82.out; have := Z_90.out; omega
  have ne94 : w.heap.size ≠ w4.heap.size := by have := Z_0.out; have := Z_1.out; have := Z_4.out; have := Z_10.out; have := Z_15.out; have := Z_20.out; have := Z_25.out; have := Z_30.out; have := Z_34.out; have := Z_39.out; have := Z_49.out; have := Z_52.out; have := Z_58.out; have := Z_69.out; have := Z_72.out; have := Z_79.out; have := Z_82.out; have := Z_90.out; omega
  go_wp2
  clear b390c0 b390c1 b390c2 b390c3 b390c4 b390c5 b390c6 bo91c0 bo91c1 bo91c2 bo91c3 bo91c4 bo91c5 bo91c6 ne93 ne94 fb3 fbo
  have kp_95 := Aside0.mk (kp_83.out.below (below_alloc (Below.refl _ w8) (.cells #[.slice u7.A u7.n u7.c, .slice u8.A u8.n u8.c] 23)))
  have bo_96 := Aside0.mk (bo_84.out.below (below_alloc (Below.refl _ w8) (.cells #[.slice u7.A u7.n u7.c, .slice u8.A u8.n u8.c] 23)))
  have b3_97 := Aside0.mk (b3_85.out.below (below_alloc (Below.refl _ w8) (.cells #[.slice u7.A u7.n u7.c, .slice u8.A u8.n u8.c] 23)))
  have l5_98 := Aside0.mk (l5_86.out.below (below_alloc (Below.refl _ w8) (.cells #[.slice u7.A u7.n u7.c, .slice u8.A u8.n u8.c] 23)))
  have l6_99 := Aside0.mk (l6_87.out.below (below_alloc (Below.refl _ w8) (.cells #[.slice u7.A u7.n u7.c, .slice u8.A u8.n u8.c] 23)))
  have l7_100 := Aside0.mk (l7_88.out.below (below_alloc (Below.refl _ w8) (.cells #[.slice u7.A u7.n u7.c, .slice u8.A u8.n u8.c] 23)))
  have rd_101 := Aside0.mk (rd_80.out.below (below_alloc (Below.refl _ w8) (.cells #[.slice u7.A u7.n u7.c, .slice u8.A u8.n u8.c] 23)))
  have l8_102 := Aside0.mk (l8_81.out.below (below_alloc (Below.refl _ w8) (.cells #[.slice u7.A u7.n u7.c, .slice u8.A u8.n u8.c] 23)))
  have HB_103 := Aside0.mk (below_step HB_89.out (below_alloc (Below.refl _ w8) (.cells #[.slice u7.A u7.n u7.c, .slice u8.A u8.n u8.c] 23)))
  have Z_104 := Aside0.mk (show (w8.alloc (.cells #[.slice u7.A u7.n u7.c, .slice u8.A u8.n u8.c] 23)).heap.size = w8.heap.size + 1 by simp)
  have rw_105 := Aside0.mk (Bx.new w8 23 #[.slice u7.A u7.n u7.c, .slice u8.A u8.n u8.c])
  clear kp_83 bo_84 b3_85 l5_86 l6_87 l7_88 rd_80 l8_81 HB_89
  have KS_106 := Aside0.mk (Kp.set (w := (w8.alloc (.cells #[.slice u7.A u7.n u7.c, .slice u8.A u8.n u8.c] 23))) (a := w4.heap.size) (b := w4.heap.size + 1) (j := 6) ⟨Nat.le_refl _, Nat.lt_succ_self _⟩ (.slice (some ⟨w8.heap.size, 0, none⟩) 2 2))
  have kp_107 := Aside0.mk (kp_95.out.kp KS_106.out (by have := Z_0.out; have := Z_1.out; have := Z_4.out; have := Z_10.out; have := Z_15.out; have := Z_20.out; have := Z_25.out; have := Z_30.out; have := Z_34.out; have := Z_39.out; have := Z_49.out; have := Z_52.out; have := Z_58.out; have := Z_69.out; have := Z_72.out; have := Z_79.out; have := Z_82.out; have := Z_90.out; have := Z_104.out; omega))
  have bo_108 := Aside0.mk (bo_96.out.kp KS_106.out (by have := Z_0.out; have := Z_1.out; have := Z_4.out; have := Z_10.out; have := Z_15.out; have := Z_20.out; have := Z_25.out; have := Z_30.out; have := Z_34.out; have := Z_39.out; have := Z_49.out; have := Z_52.out; have := Z_58.out; have := Z_69.out; have := Z_72.out; have := Z_79.out; have := Z_82.out; have := Z_90.out; have := Z_104.out; omega))
  have b3_109 := Aside0.mk (show Bx ((w8.alloc (.cells #[.slice u7.A u7.n u7.c, .slice u8.A u8.n u8.c] 23)).setCell ⟨w4.heap.size, 6, none⟩ (.slice (some ⟨w8.heap.size, 0, none⟩) 2 2)) (w4.heap.size) 26 #[.int .i64 v1, .int .i64 v2, .int .i64 v3, .int .i64 v4, .slice u5.A u5.n u5.c, .slice u6.A u6.n u6.c, .slice (some ⟨w8.heap.size, 0, none⟩) 2 2] from blk_put b3_97.out 6 _ rfl)
  have l5_110 := Aside0.mk (l5_98.out.kp KS_106.out (by have := Z_0.out; have := Z_1.out; have := Z_4.out; have := Z_10.out; have := Z_15.out; have := Z_20.out; have := Z_25.out; have := Z_30.out; have := Z_34.out; have := Z_39.out; have := Z_49.out; have := Z_52.out; have := Z_58.out; have := Z_69.out; have := Z_72.out; have := Z_79.out; have := Z_82.out; have := Z_90.out; have := Z_104.out; omega))
  have l6_111 := Aside0.mk (l6_99.out.kp KS_106.out (by have := Z_0.out; have := Z_1.out; have := Z_4.out; have := Z_10.out; have := Z_15.out; have := Z_20.out; have := Z_25.out; have := Z_30.out; have := Z_34.out; have := Z_39.out; have := Z_49.out; have := Z_52.out; have := Z_58.out; have := Z_69.out; have := Z_72.out; have := Z_79.out; have := Z_82.out; have := Z_90.out; have := Z_104.out; omega))
  have l7_112 := Aside0.mk (l7_100.out.kp KS_106.out (by have := Z_0.out; have := Z_1.out; have := Z_4.out; have := Z_10.out; have := Z_15.out; have := Z_20.out; have := Z_25.out; have := Z_30.out; have := Z_34.out; have := Z_39.out; have := Z_49.out; have := Z_52.out; have := Z_58.out; have := Z_69.out; have := Z_72.out; have := Z_79.out; have := Z_82.out; have := Z_90.out; have := Z_104.out; omega))
  have rd_113 := Aside0.mk (rd_101.out.kp KS_106.out (by have := Z_0.out; have := Z_1.out; have := Z_4.out; have := Z_10.out; have := Z_15.out; have := Z_20.out; have := Z_25.out; have := Z_30.out; have := Z_34.out; have := Z_39.out; have := Z_49.out; have := Z_52.out; have := Z_58.out; have := Z_69.out; have := Z_72.out; have := Z_79.out; have := Z_82.out; have := Z_90.out; have := Z_104.out; omega))
  have l8_114 := Aside0.mk (l8_102.out.kp KS_106.out (by have := Z_0.out; have := Z_1.out; have := Z_4.out; have := Z_10.out; have := Z_15.out; have := Z_20.out; have := Z_25.out; have := Z_30.out; have := Z_34.out; have := Z_39.out; have := Z_49.out; have := Z_52.out; have := Z_58.out; have := Z_69.out; have := Z_72.out; have := Z_79.out; have := Z_82.out; have := Z_90.out; have := Z_104.out; omega))
  have rw_115 := Aside0.mk (rw_105.out.kp KS_106.out (by have := Z_0.out; have := Z_1.out; have := Z_4.out; have := Z_10.out; have := Z_15.out; have := Z_20.out; have := Z_25.out; have := Z_30.out; have := Z_34.out; have := Z_39.out; have := Z_49.out; have := Z_52.out; have := Z_58.out; have := Z_69.out; have := Z_72.out; have := Z_79.out; have := Z_82.out; have := Z_90.out; have := Z_104.out; omega))
  have HB_116 := Aside0.mk (below_kp HB_103.out KS_106.out (by have := Z_0.out; have := Z_1.out; have := Z_4.out; have := Z_10.out; have := Z_15.out; have := Z_20.out; have := Z_25.out; have := Z_30.out; have := Z_34.out; have := Z_39.out; have := Z_49.out; have := Z_52.out; have := Z_58.out; have := Z_69.out; have := Z_72.out; have := Z_79.out; have := Z_82.out; have := Z_90.out; have := Z_104.out; omega) HB_103.out.size)
  have Z_117 := Aside0.mk (show ((w8.alloc (.cells #[.slice u7.A u7.n u7.c, .slice u8.A u8.n u8.c] 23)).setCell ⟨w4.heap.size, 6, none⟩ (.slice (some ⟨w8.heap.size, 0, none⟩) 2 2)).heap.size = (w8.alloc (.cells #[.slice u7.A u7.n u7.c, .slice u8.A u8.n u8.c] 23)).heap.size by simp)
  clear kp_95 bo_96 b3_97 l5_98 l6_99 l7_100 rd_101 l8_102 rw_105 HB_103 KS_106
  have FB := Aside0.mk (bo_108.out.fill (.int .i64 v1) (.int .i64 v2) (.int .i64 v3) (.int .i64 v4) (.slice u5.A u5.n u5.c) (.slice u6.A u6.n u6.c) (.slice (some ⟨w8.heap.size, 0, none⟩) 2 2))
  refine bodyPost_ret (results_cell_row rfl _ _ w.heap.size 26 #[.int .i64 v1, .int .i64 v2, .int .i64 v3, .int .i64 v4, .slice u5.A u5.n u5.c, .slice u6.A u6.n u6.c, .slice (some ⟨w8.heap.size, 0, none⟩) 2 2] (0, 0) _ rfl FB.out.1 Try.underlying26 rfl (by kernel_rfl)) rfl ?_
  refine ⟨u5, u6, u7, u8, w8.heap.size, c5, d5, c6, d6, c7, d7, c8, d8, rfl, l5_110.out.kp FB.out.2 (by have := Z_0.out; have := Z_1.out; have := Z_4.out; have := Z_10.out; have := Z_15.out; have := Z_20.out; have := Z_25.out; have := Z_30.out; have := Z_34.out; have := Z_39.out; have := Z_49.out; have := Z_52.out; have := Z_58.out; have := Z_69.out; have := Z_72.out; have := Z_79.out; have := Z_82.out; have := Z_90.out; have := Z_104.out; have := Z_117.out; omega), l6_111.out.kp FB.out.2 (by have := Z_0.out; have := Z_1.out; have := Z_4.out; have := Z_10.out; have := Z_15.out; have := Z_20.out; have := Z_25.out; have := Z_30.out; have := Z_34.out; have := Z_39.out; have := Z_49.out; have := Z_52.out; have := Z_58.out; have := Z_69.out; have := Z_72.out; have := Z_79.out; have := Z_82.out; have := Z_90.out; have := Z_104.out; have := Z_117.out; omega), l7_112.out.kp FB.out.2 (by have := Z_0.out; have := Z_1.out; have := Z_4.out; have := Z_10.out; have := Z_15.out; have := Z_20.out; have := Z_25.out; have := Z_30.out; have := Z_34.out; have := Z_39.out; have := Z_49.out; have := Z_52.out; have := Z_58.out; have := Z_69.out; have := Z_72.out; have := Z_79.out; have := Z_82.out; have := Z_90.out; have := Z_104.out; have := Z_117.out; omega), l8_114.out.kp FB.out.2 (by have := Z_0.out; have := Z_1.out; have := Z_4.out; have := Z_10.out; have := Z_15.out; have := Z_20.out; have := Z_25.out; have := Z_30.out; have := Z_34.out; have := Z_39.out; have := Z_49.out; have := Z_52.out; have := Z_58.out; have := Z_69.out; have := Z_72.out; have := Z_79.out; have := Z_82.out; have := Z_90.out; have := Z_104.out; have := Z_117.out; omega), rw_115.out.kp FB.out.2 (by have := Z_0.out; have := Z_1.out; have := Z_4.out; have := Z_10.out; have := Z_15.out; have := Z_20.out; have := Z_25.out; have := Z_30.out; have := Z_34.out; have := Z_39.out; have := Z_49.out; have := Z_52.out; have := Z_58.out; have := Z_69.out; have := Z_72.out; have := Z_79.out; have := Z_82.out; have := Z_90.out; have := Z_104.out; have := Z_117.out; omega), ⟨?_, ?_, ?_, ?_, ?_, ?_, ?_, ?_, ?_⟩, rd_113.out.kp FB.out.2 (by have := Z_0.out; have := Z_1.out; have := Z_4.out; have := Z_10.out; have := Z_15.out; have := Z_20.out; have := Z_25.out; have := Z_30.out; have := Z_34.out; have := Z_39.out; have := Z_49.out; have := Z_52.out; have := Z_58.out; have := Z_69.out; have := Z_72.out; have := Z_79.out; have := Z_82.out; have := Z_90.out; have := Z_104.out; have := Z_117.out; omega), kp_107.out.kp FB.out.2 (by have := Z_0.out; have := Z_1.out; have := Z_4.out; have := Z_10.out; have := Z_15.out; have := Z_20.out; have := Z_25.out; have := Z_30.out; have := Z_34.out; have := Z_39.out; have := Z_49.out; have := Z_52.out; have := Z_58.out; have := Z_69.out; have := Z_72.out; have := Z_79.out; have := Z_82.out; have := Z_90.out; have := Z_104.out; have := Z_117.out; omega)⟩ <;> (have := Z_0.out; have := Z_1.out; have := Z_4.out; have := Z_10.out; have := Z_15.out; have := Z_20.out; have := Z_25.out; have := Z_30.out; have := Z_34.out; have := Z_39.out; have := Z_49.out; have := Z_52.out; have := Z_58.out; have := Z_69.out; have := Z_72.out; have := Z_79.out; have := Z_82.out; have := Z_90.out; have := Z_104.out; have := Z_117.out; omega)

theorem so_sk {w : World} {u5 u6 u7 u8 : Sl} {gl c5 d5 c6 d6 c7 d7 c8 d8 : Nat} {l5 l6 l7 l8 : List Int} (h5 : Iv w c5 d5 u5 l5) (h6 : Iv w c6 d6 u6 l6) (h7 : Iv w c7 d7 u7 l7) (h8 : Iv w c8 d8 u8 l8) (hx : Bx w gl 23 #[.slice u7.A u7.n u7.c, .slice u8.A u8.n u8.c])
    (ho : d5 ≤ c6 ∧ d6 ≤ c7 ∧ d7 ≤ c8 ∧ d8 ≤ gl ∧ c5 ≤ d5 ∧ c6 ≤ d6 ∧ c7 ≤ d7 ∧ c8 ≤ d8) (ln : l5.length = 8 ∧ l6.length = 8 ∧ l7.length = 4 ∧ l8.length = 4) : Sk w c5 (gl + 1) u5 u6 ⟨some ⟨gl, 0, none⟩, 2, 2⟩ l5 l6 [l7, l8] := by
  have b5 := (Kd.R_bound h5).1
  have b6 := (Kd.R_bound h6).1
  obtain ⟨p7, k7, e7, x7, y7, _⟩ := Kd.R_form h7 (by omega)
  obtain ⟨p8, k8, e8, x8, y8, _⟩ := Kd.R_form h8 (by omega)
  have z7 := (Kd.R_bound h7).1 p7 (by rw [e7]; simp [Value.ownBlock])
  have z8 := (Kd.R_bound h8).1 p8 (by rw [e8]; simp [Value.ownBlock])
  obtain ⟨A7, n7, m7⟩ := u7
  obtain ⟨A8, n8, m8⟩ := u8
  injection e7 with i1 i2 i3
  injection e8 with i4 i5 i6
  subst i1 i2 i3 i4 i5 i6
  refine ⟨Kd.R_mono h5 (fun _ hk => by omega), Kd.R_lower (Kd.R_reok rfl h6 (fun k hk => ⟨by have := b6 k hk; omega, fun e => by have := b6 k hk; have := b5 k e.symm; omega⟩)) (by omega), ?_⟩
  refine lit_S (W := w) (base := c5) (p0 := p7) (p1 := p8) rfl rfl hx (Kd.R_lower (Kd.R_reok rfl h7 (fun k hk => by
    have : p7 = k := by simpa [Value.ownBlock] using hk
    exact this.symm)) (by omega)) (Kd.R_lower (Kd.R_reok rfl h8 (fun k hk => by
    have : p8 = k := by simpa [Value.ownBlock] using hk
    exact this.symm)) (by omega)) ⟨by omega, by omega, by omega⟩ (by omega) ⟨⟨by omega, ?_, ?_⟩, ⟨by omega, ?_, ?_⟩, ⟨by omega, ?_, ?_⟩⟩
  all_goals
    intro e
    first
      | (have := b5 _ e.symm; omega)
      | (have := b6 _ e.symm; omega)
theorem impl_SketchOf.ok (k : Nat) {w : World} {x y z : Sl} {h r : List Int} {R : List (List Int)} (c s lo hi : Int) (t : Bool) (u : Rd w x y z h r R) (he : impl_SketchOk.f k c s lo hi h r R = some t) :
    Calls Try.prog 35 #[.agg #[.int .i64 c, .int .i64 s, .int .i64 lo, .int .i64 hi, .slice x.A x.n x.c, .slice y.A y.n y.c, .slice z.A z.n z.c]] w fun e w' => e = .returned (.bool t) ∧ Below w.heap.size w w' := by
  rw [u.e4, u.e5, u.e6]
  exact impl_SketchOk.calls k c s lo hi _ _ h _ _ r _ _ R t w u.C4 u.l4 u.C5 u.l5 u.C6 u.l6 he
set_option maxHeartbeats 8000000 in
theorem impl_SketchOf.bad (k : Nat) {w : World} {c : Nat} {A : Option Addr} {l : List Int} (N : Int → Int × Int × Bool) (a1 a2 a3 a4 a5 a6 a7 a8 v1 v2 v3 v4 : Int) (b1 b2 b3 b4 b5 b6 b7 : Bool) (l5 l6 l7 l8 : List Int)
    (q1 : Aside0 (rdV false (N 0) = v1 ∧ rdA false 0 (N 0) = a1 ∧ rdB false (N 0) = b1)) (q2 : Aside0 (rdV b1 (N a1) = v2 ∧ rdA b1 a1 (N a1) = a2 ∧ rdB b1 (N a1) = b2)) (q3 : Aside0 (rdV b2 (N a2) = v3 ∧ rdA b2 a2 (N a2) = a3 ∧ rdB b2 (N a2) = b3)) (q4 : Aside0 (rdV b3 (N a3) = v4 ∧ rdA b3 a3 (N a3) = a4 ∧ rdB b3 (N a3) = b4))
    (q5 : Aside0 (rdNums N 8 b4 a4 = (l5, b5, a5))) (q6 : Aside0 (rdNums N 8 b5 a5 = (l6, b6, a6))) (q7 : Aside0 (rdNums N 4 b6 a6 = (l7, b7, a7)))
    (U0 : Aside0 ((Kd.int .u8).C w A l.length l)) (L0 : Aside0 (l.length ≤ c)) (E0 : Aside0 (∀ a, impl_GetNum.f k l a = some (N a))) (q8 : Aside0 (rdNums N 4 b7 a7 = (l8, true, a8))) :
    Calls Try.prog 11 #[.slice A l.length c] w (SkOut w 0 0 0 0 [] [] [] false) := by
  have HB0 := Aside0.mk (Below.refl w.heap.size w)
  go_enter Try.func11, Try.ntmps11
  have HB_1 := Aside0.mk (below_step HB0.out (below_alloc (Below.refl _ w) (.cells #[.int .i64 0, .int .i64 0, .int .i64 0, .int .i64 0, .slice none 0 0, .slice none 0 0, .slice none 0 0] 26)))
  have Z_2 := Aside0.mk (show (w.alloc (.cells #[.int .i64 0, .int .i64 0, .int .i64 0, .int .i64 0, .slice none 0 0, .slice none 0 0, .slice none 0 0] 26)).heap.size = w.heap.size + 1 by simp)
  have bo_3 := Aside0.mk (Bx.new w 26 #[.int .i64 0, .int .i64 0, .int .i64 0, .int .i64 0, .slice none 0 0, .slice none 0 0, .slice none 0 0])
  clear HB0
  have bo_4 := Aside0.mk (bo_3.out.below (below_alloc (Below.refl _ (w.alloc (.cells #[.int .i64 0, .int .i64 0, .int .i64 0, .int .i64 0, .slice none 0 0, .slice none 0 0, .slice none 0 0] 26))) (.cells #[.slice A l.length c, .int .i64 0, .bool false] 64)))
  have HB_5 := Aside0.mk (below_step HB_1.out (below_alloc (Below.refl _ (w.alloc (.cells #[.int .i64 0, .int .i64 0, .int .i64 0, .int .i64 0, .slice none 0 0, .slice none 0 0, .slice none 0 0] 26))) (.cells #[.slice A l.length c, .int .i64 0, .bool false] 64)))
  have Z_6 := Aside0.mk (show ((w.alloc (.cells #[.int .i64 0, .int .i64 0, .int .i64 0, .int .i64 0, .slice none 0 0, .slice none 0 0, .slice none 0 0] 26)).alloc (.cells #[.slice A l.length c, .int .i64 0, .bool false] 64)).heap.size = w.heap.size + 1 + 1 by simp)
  have rd_7 := Aside0.mk ((show Bx ((w.alloc (.cells #[.int .i64 0, .int .i64 0, .int .i64 0, .int .i64 0, .slice none 0 0, .slice none 0 0, .slice none 0 0] 26)).alloc (.cells #[.slice A l.length c, .int .i64 0, .bool false] 64)) (w.heap.size + 1) 64 #[.slice A l.length c, .int .i64 0, .bool false] from (show (w.alloc (.cells #[.int .i64 0, .int .i64 0, .int .i64 0, .int .i64 0, .slice none 0 0, .slice none 0 0, .slice none 0 0] 26)).heap.size = w.heap.size + 1 by simp) ▸ Bx.new (w.alloc (.cells #[.int .i64 0, .int .i64 0, .int .i64 0, .int .i64 0, .slice none 0 0, .slice none 0 0, .slice none 0 0] 26)) 64 #[.slice A l.length c, .int .i64 0, .bool false]))
  clear bo_3 HB_1
  go_wp2_with fail
  refine (sketch_call k N 0 a1 a2 a3 a4 a5 a6 a7 a8 v1 v2 v3 v4 false b1 b2 b3 b4 b5 b6 b7 true l5 l6 l7 l8 q1 q2 q3 q4 q5 q6 q7 q8 rd_7 U0 HB_5 (g := w.heap.size + 1) ⟨by simp⟩ L0 E0).mono ?_
  rintro e w1 ⟨u5, u6, u7, u8, gl, c5, d5, c6, d6, c7, d7, c8, d8, rfl, h5, h6, h7, h8, hx, ho, hB, hk⟩
  have l5_8 := Aside0.mk h5
  clear h5
  have l6_9 := Aside0.mk h6
  clear h6
  have l7_10 := Aside0.mk h7
  clear h7
  have l8_11 := Aside0.mk h8
  clear h8
  have rw_12 := Aside0.mk hx
  clear hx
  have rd_13 := Aside0.mk hB
  clear hB
  clear rd_7
  have bo_14 := Aside0.mk (bo_4.out.kp hk (by have := Z_2.out; have := Z_6.out; omega))
  have HB_15 := Aside0.mk (below_kp HB_5.out hk (by have := Z_2.out; have := Z_6.out; omega) HB_5.out.size)
  have Z_16 := Aside0.mk (hk.kept.1)
  clear bo_4 HB_5 hk
  have Z_q := Aside0.mk ho
  clear ho
  have Z_r := Aside0.mk rw_12.out.lt
  have bo_17 := Aside0.mk (bo_14.out.below (below_alloc (Below.refl _ w1) (.cells #[.int .i64 v1, .int .i64 v2, .int .i64 v3, .int .i64 v4, .slice u5.A u5.n u5.c, .slice u6.A u6.n u6.c, .slice (some ⟨gl, 0, none⟩) 2 2] 26)))
  have l5_18 := Aside0.mk (l5_8.out.below (below_alloc (Below.refl _ w1) (.cells #[.int .i64 v1, .int .i64 v2, .int .i64 v3, .int .i64 v4, .slice u5.A u5.n u5.c, .slice u6.A u6.n u6.c, .slice (some ⟨gl, 0, none⟩) 2 2] 26)))
  have l6_19 := Aside0.mk (l6_9.out.below (below_alloc (Below.refl _ w1) (.cells #[.int .i64 v1, .int .i64 v2, .int .i64 v3, .int .i64 v4, .slice u5.A u5.n u5.c, .slice u6.A u6.n u6.c, .slice (some ⟨gl, 0, none⟩) 2 2] 26)))
  have l7_20 := Aside0.mk (l7_10.out.below (below_alloc (Below.refl _ w1) (.cells #[.int .i64 v1, .int .i64 v2, .int .i64 v3, .int .i64 v4, .slice u5.A u5.n u5.c, .slice u6.A u6.n u6.c, .slice (some ⟨gl, 0, none⟩) 2 2] 26)))
  have l8_21 := Aside0.mk (l8_11.out.below (below_alloc (Below.refl _ w1) (.cells #[.int .i64 v1, .int .i64 v2, .int .i64 v3, .int .i64 v4, .slice u5.A u5.n u5.c, .slice u6.A u6.n u6.c, .slice (some ⟨gl, 0, none⟩) 2 2] 26)))
  have rw_22 := Aside0.mk (rw_12.out.below (below_alloc (Below.refl _ w1) (.cells #[.int .i64 v1, .int .i64 v2, .int .i64 v3, .int .i64 v4, .slice u5.A u5.n u5.c, .slice u6.A u6.n u6.c, .slice (some ⟨gl, 0, none⟩) 2 2] 26)))
  have rd_23 := Aside0.mk (rd_13.out.below (below_alloc (Below.refl _ w1) (.cells #[.int .i64 v1, .int .i64 v2, .int .i64 v3, .int .i64 v4, .slice u5.A u5.n u5.c, .slice u6.A u6.n u6.c, .slice (some ⟨gl, 0, none⟩) 2 2] 26)))
  have HB_24 := Aside0.mk (below_step HB_15.out (below_alloc (Below.refl _ w1) (.cells #[.int .i64 v1, .int .i64 v2, .int .i64 v3, .int .i64 v4, .slice u5.A u5.n u5.c, .slice u6.A u6.n u6.c, .slice (some ⟨gl, 0, none⟩) 2 2] 26)))
  have Z_25 := Aside0.mk (show (w1.alloc (.cells #[.int .i64 v1, .int .i64 v2, .int .i64 v3, .int .i64 v4, .slice u5.A u5.n u5.c, .slice u6.A u6.n u6.c, .slice (some ⟨gl, 0, none⟩) 2 2] 26)).heap.size = w1.heap.size + 1 by simp)
  have bs_26 := Aside0.mk (Bx.new w1 26 #[.int .i64 v1, .int .i64 v2, .int .i64 v3, .int .i64 v4, .slice u5.A u5.n u5.c, .slice u6.A u6.n u6.c, .slice (some ⟨gl, 0, none⟩) 2 2])
  clear bo_14 l5_8 l6_9 l7_10 l8_11 rw_12 rd_13 HB_15
  obtain ⟨rd26c0, rd26c1, rd26c2⟩ := rd_23.out.cells3
  obtain ⟨bo27c0, bo27c1, bo27c2, bo27c3, bo27c4, bo27c5, bo27c6⟩ := bo_17.out.cells
  have fz29 := bo_17.out.fz
  go_wp2
  clear rd26c0 rd26c1 rd26c2 bo27c0 bo27c1 bo27c2 bo27c3 bo27c4 bo27c5 bo27c6 fz29
  have FB := Aside0.mk (bo_17.out.fill (.int .i64 0) (.int .i64 0) (.int .i64 0) (.int .i64 0) (.slice none 0 0) (.slice none 0 0) (.slice none 0 0))
  refine bodyPost_ret (results_ct rfl _ _ w.heap.size 26 #[.int .i64 0, .int .i64 0, .int .i64 0, .int .i64 0, .slice none 0 0, .slice none 0 0, .slice none 0 0] (0, 0) _ rfl FB.out.1 Try.underlying26 rfl (by kernel_rfl)) rfl ?_
  exact ⟨⟨none, 0, 0⟩, ⟨none, 0, 0⟩, ⟨none, 0, 0⟩, _, _, rfl, Sk.nil _ w.heap.size w.heap.size, ⟨Nat.le_refl _, Nat.le_refl _, Nat.le_trans HB_24.out.size FB.out.2.kept.1⟩, below_kp HB_24.out FB.out.2 (by omega) HB_24.out.size⟩
set_option maxHeartbeats 8000000 in
theorem impl_SketchOf.far (k : Nat) {w : World} {c : Nat} {A : Option Addr} {l : List Int} (N : Int → Int × Int × Bool) (a1 a2 a3 a4 a5 a6 a7 a8 v1 v2 v3 v4 : Int) (b1 b2 b3 b4 b5 b6 b7 : Bool) (l5 l6 l7 l8 : List Int)
    (q1 : Aside0 (rdV false (N 0) = v1 ∧ rdA false 0 (N 0) = a1 ∧ rdB false (N 0) = b1)) (q2 : Aside0 (rdV b1 (N a1) = v2 ∧ rdA b1 a1 (N a1) = a2 ∧ rdB b1 (N a1) = b2)) (q3 : Aside0 (rdV b2 (N a2) = v3 ∧ rdA b2 a2 (N a2) = a3 ∧ rdB b2 (N a2) = b3)) (q4 : Aside0 (rdV b3 (N a3) = v4 ∧ rdA b3 a3 (N a3) = a4 ∧ rdB b3 (N a3) = b4))
    (q5 : Aside0 (rdNums N 8 b4 a4 = (l5, b5, a5))) (q6 : Aside0 (rdNums N 8 b5 a5 = (l6, b6, a6))) (q7 : Aside0 (rdNums N 4 b6 a6 = (l7, b7, a7)))
    (U0 : Aside0 ((Kd.int .u8).C w A l.length l)) (L0 : Aside0 (l.length ≤ c)) (E0 : Aside0 (∀ a, impl_GetNum.f k l a = some (N a))) (q8 : Aside0 (rdNums N 4 b7 a7 = (l8, false, a8))) (HT : Aside0 (¬ a8 = (l.length : Int))) :
    Calls Try.prog 11 #[.slice A l.length c] w (SkOut w 0 0 0 0 [] [] [] false) := by
  have HB0 := Aside0.mk (Below.refl w.heap.size w)
  go_enter Try.func11, Try.ntmps11
  have HB_1 := Aside0.mk (below_step HB0.out (below_alloc (Below.refl _ w) (.cells #[.int .i64 0, .int .i64 0, .int .i64 0, .int .i64 0, .slice none 0 0, .slice none 0 0, .slice none 0 0] 26)))
  have Z_2 := Aside0.mk (show (w.alloc (.cells #[.int .i64 0, .int .i64 0, .int .i64 0, .int .i64 0, .slice none 0 0, .slice none 0 0, .slice none 0 0] 26)).heap.size = w.heap.size + 1 by simp)
  have bo_3 := Aside0.mk (Bx.new w 26 #[.int .i64 0, .int .i64 0, .int .i64 0, .int .i64 0, .slice none 0 0, .slice none 0 0, .slice none 0 0])
  clear HB0
  have bo_4 := Aside0.mk (bo_3.out.below (below_alloc (Below.refl _ (w.alloc (.cells #[.int .i64 0, .int .i64 0, .int .i64 0, .int .i64 0, .slice none 0 0, .slice none 0 0, .slice none 0 0] 26))) (.cells #[.slice A l.length c, .int .i64 0, .bool false] 64)))
  have HB_5 := Aside0.mk (below_step HB_1.out (below_alloc (Below.refl _ (w.alloc (.cells #[.int .i64 0, .int .i64 0, .int .i64 0, .int .i64 0, .slice none 0 0, .slice none 0 0, .slice none 0 0] 26))) (.cells #[.slice A l.length c, .int .i64 0, .bool false] 64)))
  have Z_6 := Aside0.mk (show ((w.alloc (.cells #[.int .i64 0, .int .i64 0, .int .i64 0, .int .i64 0, .slice none 0 0, .slice none 0 0, .slice none 0 0] 26)).alloc (.cells #[.slice A l.length c, .int .i64 0, .bool false] 64)).heap.size = w.heap.size + 1 + 1 by simp)
  have rd_7 := Aside0.mk ((show Bx ((w.alloc (.cells #[.int .i64 0, .int .i64 0, .int .i64 0, .int .i64 0, .slice none 0 0, .slice none 0 0, .slice none 0 0] 26)).alloc (.cells #[.slice A l.length c, .int .i64 0, .bool false] 64)) (w.heap.size + 1) 64 #[.slice A l.length c, .int .i64 0, .bool false] from (show (w.alloc (.cells #[.int .i64 0, .int .i64 0, .int .i64 0, .int .i64 0, .slice none 0 0, .slice none 0 0, .slice none 0 0] 26)).heap.size = w.heap.size + 1 by simp) ▸ Bx.new (w.alloc (.cells #[.int .i64 0, .int .i64 0, .int .i64 0, .int .i64 0, .slice none 0 0, .slice none 0 0, .slice none 0 0] 26)) 64 #[.slice A l.length c, .int .i64 0, .bool false]))
  clear bo_3 HB_1
  go_wp2_with fail
  refine (sketch_call k N 0 a1 a2 a3 a4 a5 a6 a7 a8 v1 v2 v3 v4 false b1 b2 b3 b4 b5 b6 b7 false l5 l6 l7 l8 q1 q2 q3 q4 q5 q6 q7 q8 rd_7 U0 HB_5 (g := w.heap.size + 1) ⟨by simp⟩ L0 E0).mono ?_
  rintro e w1 ⟨u5, u6, u7, u8, gl, c5, d5, c6, d6, c7, d7, c8, d8, rfl, h5, h6, h7, h8, hx, ho, hB, hk⟩
  have l5_8 := Aside0.mk h5
  clear h5
  have l6_9 := Aside0.mk h6
  clear h6
  have l7_10 := Aside0.mk h7
  clear h7
  have l8_11 := Aside0.mk h8
  clear h8
  have rw_12 := Aside0.mk hx
  clear hx
  have rd_13 := Aside0.mk hB
  clear hB
  clear rd_7
  have bo_14 := Aside0.mk (bo_4.out.kp hk (by have := Z_2.out; have := Z_6.out; omega))
  have HB_15 := Aside0.mk (below_kp HB_5.out hk (by have := Z_2.out; have := Z_6.out; omega) HB_5.out.size)
  have Z_16 := Aside0.mk (hk.kept.1)
  clear bo_4 HB_5 hk
  have Z_q := Aside0.mk ho
  clear ho
  have Z_r := Aside0.mk rw_12.out.lt
  have bo_17 := Aside0.mk (bo_14.out.below (below_alloc (Below.refl _ w1) (.cells #[.int .i64 v1, .int .i64 v2, .int .i64 v3, .int .i64 v4, .slice u5.A u5.n u5.c, .slice u6.A u6.n u6.c, .slice (some ⟨gl, 0, none⟩) 2 2] 26)))
  have l5_18 := Aside0.mk (l5_8.out.below (below_alloc (Below.refl _ w1) (.cells #[.int .i64 v1, .int .i64 v2, .int .i64 v3, .int .i64 v4, .slice u5.A u5.n u5.c, .slice u6.A u6.n u6.c, .slice (some ⟨gl, 0, none⟩) 2 2] 26)))
  have l6_19 := Aside0.mk (l6_9.out.below (below_alloc (Below.refl _ w1) (.cells #[.int .i64 v1, .int .i64 v2, .int .i64 v3, .int .i64 v4, .slice u5.A u5.n u5.c, .slice u6.A u6.n u6.c, .slice (some ⟨gl, 0, none⟩) 2 2] 26)))
  have l7_20 := Aside0.mk (l7_10.out.below (below_alloc (Below.refl _ w1) (.cells #[.int .i64 v1, .int .i64 v2, .int .i64 v3, .int .i64 v4, .slice u5.A u5.n u5.c, .slice u6.A u6.n u6.c, .slice (some ⟨gl, 0, none⟩) 2 2] 26)))
  have l8_21 := Aside0.mk (l8_11.out.below (below_alloc (Below.refl _ w1) (.cells #[.int .i64 v1, .int .i64 v2, .int .i64 v3, .int .i64 v4, .slice u5.A u5.n u5.c, .slice u6.A u6.n u6.c, .slice (some ⟨gl, 0, none⟩) 2 2] 26)))
  have rw_22 := Aside0.mk (rw_12.out.below (below_alloc (Below.refl _ w1) (.cells #[.int .i64 v1, .int .i64 v2, .int .i64 v3, .int .i64 v4, .slice u5.A u5.n u5.c, .slice u6.A u6.n u6.c, .slice (some ⟨gl, 0, none⟩) 2 2] 26)))
  have rd_23 := Aside0.mk (rd_13.out.below (below_alloc (Below.refl _ w1) (.cells #[.int .i64 v1, .int .i64 v2, .int .i64 v3, .int .i64 v4, .slice u5.A u5.n u5.c, .slice u6.A u6.n u6.c, .slice (some ⟨gl, 0, none⟩) 2 2] 26)))
  have HB_24 := Aside0.mk (below_step HB_15.out (below_alloc (Below.refl _ w1) (.cells #[.int .i64 v1, .int .i64 v2, .int .i64 v3, .int .i64 v4, .slice u5.A u5.n u5.c, .slice u6.A u6.n u6.c, .slice (some ⟨gl, 0, none⟩) 2 2] 26)))
  have Z_25 := Aside0.mk (show (w1.alloc (.cells #[.int .i64 v1, .int .i64 v2, .int .i64 v3, .int .i64 v4, .slice u5.A u5.n u5.c, .slice u6.A u6.n u6.c, .slice (some ⟨gl, 0, none⟩) 2 2] 26)).heap.size = w1.heap.size + 1 by simp)
  have bs_26 := Aside0.mk (Bx.new w1 26 #[.int .i64 v1, .int .i64 v2, .int .i64 v3, .int .i64 v4, .slice u5.A u5.n u5.c, .slice u6.A u6.n u6.c, .slice (some ⟨gl, 0, none⟩) 2 2])
  clear bo_14 l5_8 l6_9 l7_10 l8_11 rw_12 rd_13 HB_15
  obtain ⟨rd26c0, rd26c1, rd26c2⟩ := rd_23.out.cells3
  obtain ⟨bo27c0, bo27c1, bo27c2, bo27c3, bo27c4, bo27c5, bo27c6⟩ := bo_17.out.cells
  have fz29 := bo_17.out.fz
  have ht := HT.out
  go_wp2
  clear rd26c0 rd26c1 rd26c2 bo27c0 bo27c1 bo27c2 bo27c3 bo27c4 bo27c5 bo27c6 fz29
  have FB := Aside0.mk (bo_17.out.fill (.int .i64 0) (.int .i64 0) (.int .i64 0) (.int .i64 0) (.slice none 0 0) (.slice none 0 0) (.slice none 0 0))
  refine bodyPost_ret (results_ct rfl _ _ w.heap.size 26 #[.int .i64 0, .int .i64 0, .int .i64 0, .int .i64 0, .slice none 0 0, .slice none 0 0, .slice none 0 0] (0, 0) _ rfl FB.out.1 Try.underlying26 rfl (by kernel_rfl)) rfl ?_
  exact ⟨⟨none, 0, 0⟩, ⟨none, 0, 0⟩, ⟨none, 0, 0⟩, _, _, rfl, Sk.nil _ w.heap.size w.heap.size, ⟨Nat.le_refl _, Nat.le_refl _, Nat.le_trans HB_24.out.size FB.out.2.kept.1⟩, below_kp HB_24.out FB.out.2 (by omega) HB_24.out.size⟩
set_option maxHeartbeats 8000000 in
theorem impl_SketchOf.no (k : Nat) {w : World} {c : Nat} {A : Option Addr} {l : List Int} (N : Int → Int × Int × Bool) (a1 a2 a3 a4 a5 a6 a7 a8 v1 v2 v3 v4 : Int) (b1 b2 b3 b4 b5 b6 b7 : Bool) (l5 l6 l7 l8 : List Int)
    (q1 : Aside0 (rdV false (N 0) = v1 ∧ rdA false 0 (N 0) = a1 ∧ rdB false (N 0) = b1)) (q2 : Aside0 (rdV b1 (N a1) = v2 ∧ rdA b1 a1 (N a1) = a2 ∧ rdB b1 (N a1) = b2)) (q3 : Aside0 (rdV b2 (N a2) = v3 ∧ rdA b2 a2 (N a2) = a3 ∧ rdB b2 (N a2) = b3)) (q4 : Aside0 (rdV b3 (N a3) = v4 ∧ rdA b3 a3 (N a3) = a4 ∧ rdB b3 (N a3) = b4))
    (q5 : Aside0 (rdNums N 8 b4 a4 = (l5, b5, a5))) (q6 : Aside0 (rdNums N 8 b5 a5 = (l6, b6, a6))) (q7 : Aside0 (rdNums N 4 b6 a6 = (l7, b7, a7)))
    (U0 : Aside0 ((Kd.int .u8).C w A l.length l)) (L0 : Aside0 (l.length ≤ c)) (E0 : Aside0 (∀ a, impl_GetNum.f k l a = some (N a))) (q8 : Aside0 (rdNums N 4 b7 a7 = (l8, false, (l.length : Int)))) (LN : Aside0 (l5.length = 8 ∧ l6.length = 8 ∧ l7.length = 4 ∧ l8.length = 4)) (K1 : Aside0 (impl_SketchOk.f k v1 v2 v3 v4 l5 l6 [l7, l8] = some false)) :
    Calls Try.prog 11 #[.slice A l.length c] w (SkOut w 0 0 0 0 [] [] [] false) := by
  have HB0 := Aside0.mk (Below.refl w.heap.size w)
  go_enter Try.func11, Try.ntmps11
  have HB_1 := Aside0.mk (below_step HB0.out (below_alloc (Below.refl _ w) (.cells #[.int .i64 0, .int .i64 0, .int .i64 0, .int .i64 0, .slice none 0 0, .slice none 0 0, .slice none 0 0] 26)))
  have Z_2 := Aside0.mk (show (w.alloc (.cells #[.int .i64 0, .int .i64 0, .int .i64 0, .int .i64 0, .slice none 0 0, .slice none 0 0, .slice none 0 0] 26)).heap.size = w.heap.size + 1 by simp)
  have bo_3 := Aside0.mk (Bx.new w 26 #[.int .i64 0, .int .i64 0, .int .i64 0, .int .i64 0, .slice none 0 0, .slice none 0 0, .slice none 0 0])
  clear HB0
  have bo_4 := Aside0.mk (bo_3.out.below (below_alloc (Below.refl _ (w.alloc (.cells #[.int .i64 0, .int .i64 0, .int .i64 0, .int .i64 0, .slice none 0 0, .slice none 0 0, .slice none 0 0] 26))) (.cells #[.slice A l.length c, .int .i64 0, .bool false] 64)))
  have HB_5 := Aside0.mk (below_step HB_1.out (below_alloc (Below.refl _ (w.alloc (.cells #[.int .i64 0, .int .i64 0, .int .i64 0, .int .i64 0, .slice none 0 0, .slice none 0 0, .slice none 0 0] 26))) (.cells #[.slice A l.length c, .int .i64 0, .bool false] 64)))
  have Z_6 := Aside0.mk (show ((w.alloc (.cells #[.int .i64 0, .int .i64 0, .int .i64 0, .int .i64 0, .slice none 0 0, .slice none 0 0, .slice none 0 0] 26)).alloc (.cells #[.slice A l.length c, .int .i64 0, .bool false] 64)).heap.size = w.heap.size + 1 + 1 by simp)
  have rd_7 := Aside0.mk ((show Bx ((w.alloc (.cells #[.int .i64 0, .int .i64 0, .int .i64 0, .int .i64 0, .slice none 0 0, .slice none 0 0, .slice none 0 0] 26)).alloc (.cells #[.slice A l.length c, .int .i64 0, .bool false] 64)) (w.heap.size + 1) 64 #[.slice A l.length c, .int .i64 0, .bool false] from (show (w.alloc (.cells #[.int .i64 0, .int .i64 0, .int .i64 0, .int .i64 0, .slice none 0 0, .slice none 0 0, .slice none 0 0] 26)).heap.size = w.heap.size + 1 by simp) ▸ Bx.new (w.alloc (.cells #[.int .i64 0, .int .i64 0, .int .i64 0, .int .i64 0, .slice none 0 0, .slice none 0 0, .slice none 0 0] 26)) 64 #[.slice A l.length c, .int .i64 0, .bool false]))
  clear bo_3 HB_1
  go_wp2_with fail
  refine (sketch_call k N 0 a1 a2 a3 a4 a5 a6 a7 (l.length : Int) v1 v2 v3 v4 false b1 b2 b3 b4 b5 b6 b7 false l5 l6 l7 l8 q1 q2 q3 q4 q5 q6 q7 q8 rd_7 U0 HB_5 (g := w.heap.size + 1) ⟨by simp⟩ L0 E0).mono ?_
  rintro e w1 ⟨u5, u6, u7, u8, gl, c5, d5, c6, d6, c7, d7, c8, d8, rfl, h5, h6, h7, h8, hx, ho, hB, hk⟩
  have l5_8 := Aside0.mk h5
  clear h5
  have l6_9 := Aside0.mk h6
  clear h6
  have l7_10 := Aside0.mk h7
  clear h7
  have l8_11 := Aside0.mk h8
  clear h8
  have rw_12 := Aside0.mk hx
  clear hx
  have rd_13 := Aside0.mk hB
  clear hB
  clear rd_7
  have bo_14 := Aside0.mk (bo_4.out.kp hk (by have := Z_2.out; have := Z_6.out; omega))
  have HB_15 := Aside0.mk (below_kp HB_5.out hk (by have := Z_2.out; have := Z_6.out; omega) HB_5.out.size)
  have Z_16 := Aside0.mk (hk.kept.1)
  clear bo_4 HB_5 hk
  have Z_q := Aside0.mk ho
  clear ho
  have Z_r := Aside0.mk rw_12.out.lt
  have bo_17 := Aside0.mk (bo_14.out.below (below_alloc (Below.refl _ w1) (.cells #[.int .i64 v1, .int .i64 v2, .int .i64 v3, .int .i64 v4, .slice u5.A u5.n u5.c, .slice u6.A u6.n u6.c, .slice (some ⟨gl, 0, none⟩) 2 2] 26)))
  have l5_18 := Aside0.mk (l5_8.out.below (below_alloc (Below.refl _ w1) (.cells #[.int .i64 v1, .int .i64 v2, .int .i64 v3, .int .i64 v4, .slice u5.A u5.n u5.c, .slice u6.A u6.n u6.c, .slice (some ⟨gl, 0, none⟩) 2 2] 26)))
  have l6_19 := Aside0.mk (l6_9.out.below (below_alloc (Below.refl _ w1) (.cells #[.int .i64 v1, .int .i64 v2, .int .i64 v3, .int .i64 v4, .slice u5.A u5.n u5.c, .slice u6.A u6.n u6.c, .slice (some ⟨gl, 0, none⟩) 2 2] 26)))
  have l7_20 := Aside0.mk (l7_10.out.below (below_alloc (Below.refl _ w1) (.cells #[.int .i64 v1, .int .i64 v2, .int .i64 v3, .int .i64 v4, .slice u5.A u5.n u5.c, .slice u6.A u6.n u6.c, .slice (some ⟨gl, 0, none⟩) 2 2] 26)))
  have l8_21 := Aside0.mk (l8_11.out.below (below_alloc (Below.refl _ w1) (.cells #[.int .i64 v1, .int .i64 v2, .int .i64 v3, .int .i64 v4, .slice u5.A u5.n u5.c, .slice u6.A u6.n u6.c, .slice (some ⟨gl, 0, none⟩) 2 2] 26)))
  have rw_22 := Aside0.mk (rw_12.out.below (below_alloc (Below.refl _ w1) (.cells #[.int .i64 v1, .int .i64 v2, .int .i64 v3, .int .i64 v4, .slice u5.A u5.n u5.c, .slice u6.A u6.n u6.c, .slice (some ⟨gl, 0, none⟩) 2 2] 26)))
  have rd_23 := Aside0.mk (rd_13.out.below (below_alloc (Below.refl _ w1) (.cells #[.int .i64 v1, .int .i64 v2, .int .i64 v3, .int .i64 v4, .slice u5.A u5.n u5.c, .slice u6.A u6.n u6.c, .slice (some ⟨gl, 0, none⟩) 2 2] 26)))
  have HB_24 := Aside0.mk (below_step HB_15.out (below_alloc (Below.refl _ w1) (.cells #[.int .i64 v1, .int .i64 v2, .int .i64 v3, .int .i64 v4, .slice u5.A u5.n u5.c, .slice u6.A u6.n u6.c, .slice (some ⟨gl, 0, none⟩) 2 2] 26)))
  have Z_25 := Aside0.mk (show (w1.alloc (.cells #[.int .i64 v1, .int .i64 v2, .int .i64 v3, .int .i64 v4, .slice u5.A u5.n u5.c, .slice u6.A u6.n u6.c, .slice (some ⟨gl, 0, none⟩) 2 2] 26)).heap.size = w1.heap.size + 1 by simp)
  have bs_26 := Aside0.mk (Bx.new w1 26 #[.int .i64 v1, .int .i64 v2, .int .i64 v3, .int .i64 v4, .slice u5.A u5.n u5.c, .slice u6.A u6.n u6.c, .slice (some ⟨gl, 0, none⟩) 2 2])
  clear bo_14 l5_8 l6_9 l7_10 l8_11 rw_12 rd_13 HB_15
  have SK := Aside0.mk (so_sk l5_18.out l6_19.out l7_20.out l8_21.out rw_22.out (by have := Z_2.out; have := Z_6.out; have := Z_16.out; have := Z_q.out; have := Z_r.out; have := Z_25.out; omega) LN.out)
  obtain ⟨rd26c0, rd26c1, rd26c2⟩ := rd_23.out.cells3
  obtain ⟨bs27c0, bs27c1, bs27c2, bs27c3, bs27c4, bs27c5, bs27c6⟩ := bs_26.out.cells
  go_wp2_with fail
  clear rd26c0 rd26c1 rd26c2 bs27c0 bs27c1 bs27c2 bs27c3 bs27c4 bs27c5 bs27c6
  refine (impl_SketchOf.ok k v1 v2 v3 v4 false SK.out.rd K1.out).mono ?_
  rintro e w2 ⟨rfl, hb⟩
  have bo_29 := Aside0.mk (bo_17.out.below hb)
  have l5_30 := Aside0.mk (l5_18.out.below hb)
  have l6_31 := Aside0.mk (l6_19.out.below hb)
  have l7_32 := Aside0.mk (l7_20.out.below hb)
  have l8_33 := Aside0.mk (l8_21.out.below hb)
  have rw_34 := Aside0.mk (rw_22.out.below hb)
  have rd_35 := Aside0.mk (rd_23.out.below hb)
  have bs_36 := Aside0.mk (bs_26.out.below hb)
  have S_37 := Aside0.mk (SK.out.below hb)
  have HB_38 := Aside0.mk (below_step HB_24.out hb)
  have Z_39 := Aside0.mk (hb.size)
  clear bo_17 l5_18 l6_19 l7_20 l8_21 rw_22 rd_23 bs_26 SK HB_24 hb
  obtain ⟨bo39c0, bo39c1, bo39c2, bo39c3, bo39c4, bo39c5, bo39c6⟩ := bo_29.out.cells
  have fz41 := bo_29.out.fz
  go_wp2
  clear bo39c0 bo39c1 bo39c2 bo39c3 bo39c4 bo39c5 bo39c6 fz41
  have FB := Aside0.mk (bo_29.out.fill (.int .i64 0) (.int .i64 0) (.int .i64 0) (.int .i64 0) (.slice none 0 0) (.slice none 0 0) (.slice none 0 0))
  refine bodyPost_ret (results_ct rfl _ _ w.heap.size 26 #[.int .i64 0, .int .i64 0, .int .i64 0, .int .i64 0, .slice none 0 0, .slice none 0 0, .slice none 0 0] (0, 0) _ rfl FB.out.1 Try.underlying26 rfl (by kernel_rfl)) rfl ?_
  exact ⟨⟨none, 0, 0⟩, ⟨none, 0, 0⟩, ⟨none, 0, 0⟩, _, _, rfl, Sk.nil _ w.heap.size w.heap.size, ⟨Nat.le_refl _, Nat.le_refl _, Nat.le_trans HB_38.out.size FB.out.2.kept.1⟩, below_kp HB_38.out FB.out.2 (by omega) HB_38.out.size⟩
set_option maxHeartbeats 8000000 in
theorem impl_SketchOf.yes (k : Nat) {w : World} {c : Nat} {A : Option Addr} {l : List Int} (N : Int → Int × Int × Bool) (a1 a2 a3 a4 a5 a6 a7 a8 v1 v2 v3 v4 : Int) (b1 b2 b3 b4 b5 b6 b7 : Bool) (l5 l6 l7 l8 : List Int)
    (q1 : Aside0 (rdV false (N 0) = v1 ∧ rdA false 0 (N 0) = a1 ∧ rdB false (N 0) = b1)) (q2 : Aside0 (rdV b1 (N a1) = v2 ∧ rdA b1 a1 (N a1) = a2 ∧ rdB b1 (N a1) = b2)) (q3 : Aside0 (rdV b2 (N a2) = v3 ∧ rdA b2 a2 (N a2) = a3 ∧ rdB b2 (N a2) = b3)) (q4 : Aside0 (rdV b3 (N a3) = v4 ∧ rdA b3 a3 (N a3) = a4 ∧ rdB b3 (N a3) = b4))
    (q5 : Aside0 (rdNums N 8 b4 a4 = (l5, b5, a5))) (q6 : Aside0 (rdNums N 8 b5 a5 = (l6, b6, a6))) (q7 : Aside0 (rdNums N 4 b6 a6 = (l7, b7, a7)))
    (U0 : Aside0 ((Kd.int .u8).C w A l.length l)) (L0 : Aside0 (l.length ≤ c)) (E0 : Aside0 (∀ a, impl_GetNum.f k l a = some (N a))) (q8 : Aside0 (rdNums N 4 b7 a7 = (l8, false, (l.length : Int)))) (LN : Aside0 (l5.length = 8 ∧ l6.length = 8 ∧ l7.length = 4 ∧ l8.length = 4)) (K1 : Aside0 (impl_SketchOk.f k v1 v2 v3 v4 l5 l6 [l7, l8] = some true)) :
    Calls Try.prog 11 #[.slice A l.length c] w (SkOut w v1 v2 v3 v4 l5 l6 [l7, l8] true) := by
  have HB0 := Aside0.mk (Below.refl w.heap.size w)
  go_enter Try.func11, Try.ntmps11
  have HB_1 := Aside0.mk (below_step HB0.out (below_alloc (Below.refl _ w) (.cells #[.int .i64 0, .int .i64 0, .int .i64 0, .int .i64 0, .slice none 0 0, .slice none 0 0, .slice none 0 0] 26)))
  have Z_2 := Aside0.mk (show (w.alloc (.cells #[.int .i64 0, .int .i64 0, .int .i64 0, .int .i64 0, .slice none 0 0, .slice none 0 0, .slice none 0 0] 26)).heap.size = w.heap.size + 1 by simp)
  have bo_3 := Aside0.mk (Bx.new w 26 #[.int .i64 0, .int .i64 0, .int .i64 0, .int .i64 0, .slice none 0 0, .slice none 0 0, .slice none 0 0])
  clear HB0
  have bo_4 := Aside0.mk (bo_3.out.below (below_alloc (Below.refl _ (w.alloc (.cells #[.int .i64 0, .int .i64 0, .int .i64 0, .int .i64 0, .slice none 0 0, .slice none 0 0, .slice none 0 0] 26))) (.cells #[.slice A l.length c, .int .i64 0, .bool false] 64)))
  have HB_5 := Aside0.mk (below_step HB_1.out (below_alloc (Below.refl _ (w.alloc (.cells #[.int .i64 0, .int .i64 0, .int .i64 0, .int .i64 0, .slice none 0 0, .slice none 0 0, .slice none 0 0] 26))) (.cells #[.slice A l.length c, .int .i64 0, .bool false] 64)))
  have Z_6 := Aside0.mk (show ((w.alloc (.cells #[.int .i64 0, .int .i64 0, .int .i64 0, .int .i64 0, .slice none 0 0, .slice none 0 0, .slice none 0 0] 26)).alloc (.cells #[.slice A l.length c, .int .i64 0, .bool false] 64)).heap.size = w.heap.size + 1 + 1 by simp)
  have rd_7 := Aside0.mk ((show Bx ((w.alloc (.cells #[.int .i64 0, .int .i64 0, .int .i64 0, .int .i64 0, .slice none 0 0, .slice none 0 0, .slice none 0 0] 26)).alloc (.cells #[.slice A l.length c, .int .i64 0, .bool false] 64)) (w.heap.size + 1) 64 #[.slice A l.length c, .int .i64 0, .bool false] from (show (w.alloc (.cells #[.int .i64 0, .int .i64 0, .int .i64 0, .int .i64 0, .slice none 0 0, .slice none 0 0, .slice none 0 0] 26)).heap.size = w.heap.size + 1 by simp) ▸ Bx.new (w.alloc (.cells #[.int .i64 0, .int .i64 0, .int .i64 0, .int .i64 0, .slice none 0 0, .slice none 0 0, .slice none 0 0] 26)) 64 #[.slice A l.length c, .int .i64 0, .bool false]))
  clear bo_3 HB_1
  go_wp2_with fail
  refine (sketch_call k N 0 a1 a2 a3 a4 a5 a6 a7 (l.length : Int) v1 v2 v3 v4 false b1 b2 b3 b4 b5 b6 b7 false l5 l6 l7 l8 q1 q2 q3 q4 q5 q6 q7 q8 rd_7 U0 HB_5 (g := w.heap.size + 1) ⟨by simp⟩ L0 E0).mono ?_
  rintro e w1 ⟨u5, u6, u7, u8, gl, c5, d5, c6, d6, c7, d7, c8, d8, rfl, h5, h6, h7, h8, hx, ho, hB, hk⟩
  have l5_8 := Aside0.mk h5
  clear h5
  have l6_9 := Aside0.mk h6
  clear h6
  have l7_10 := Aside0.mk h7
  clear h7
  have l8_11 := Aside0.mk h8
  clear h8
  have rw_12 := Aside0.mk hx
  clear hx
  have rd_13 := Aside0.mk hB
  clear hB
  clear rd_7
  have bo_14 := Aside0.mk (bo_4.out.kp hk (by have := Z_2.out; have := Z_6.out; omega))
  have HB_15 := Aside0.mk (below_kp HB_5.out hk (by have := Z_2.out; have := Z_6.out; omega) HB_5.out.size)
  have Z_16 := Aside0.mk (hk.kept.1)
  clear bo_4 HB_5 hk
  have Z_q := Aside0.mk ho
  clear ho
  have Z_r := Aside0.mk rw_12.out.lt
  have bo_17 := Aside0.mk (bo_14.out.below (below_alloc (Below.refl _ w1) (.cells #[.int .i64 v1, .int .i64 v2, .int .i64 v3, .int .i64 v4, .slice u5.A u5.n u5.c, .slice u6.A u6.n u6.c, .slice (some ⟨gl, 0, none⟩) 2 2] 26)))
  have l5_18 := Aside0.mk (l5_8.out.below (below_alloc (Below.refl _ w1) (.cells #[.int .i64 v1, .int .i64 v2, .int .i64 v3, .int .i64 v4, .slice u5.A u5.n u5.c, .slice u6.A u6.n u6.c, .slice (some ⟨gl, 0, none⟩) 2 2] 26)))
  have l6_19 := Aside0.mk (l6_9.out.below (below_alloc (Below.refl _ w1) (.cells #[.int .i64 v1, .int .i64 v2, .int .i64 v3, .int .i64 v4, .slice u5.A u5.n u5.c, .slice u6.A u6.n u6.c, .slice (some ⟨gl, 0, none⟩) 2 2] 26)))
  have l7_20 := Aside0.mk (l7_10.out.below (below_alloc (Below.refl _ w1) (.cells #[.int .i64 v1, .int .i64 v2, .int .i64 v3, .int .i64 v4, .slice u5.A u5.n u5.c, .slice u6.A u6.n u6.c, .slice (some ⟨gl, 0, none⟩) 2 2] 26)))
  have l8_21 := Aside0.mk (l8_11.out.below (below_alloc (Below.refl _ w1) (.cells #[.int .i64 v1, .int .i64 v2, .int .i64 v3, .int .i64 v4, .slice u5.A u5.n u5.c, .slice u6.A u6.n u6.c, .slice (some ⟨gl, 0, none⟩) 2 2] 26)))
  have rw_22 := Aside0.mk (rw_12.out.below (below_alloc (Below.refl _ w1) (.cells #[.int .i64 v1, .int .i64 v2, .int .i64 v3, .int .i64 v4, .slice u5.A u5.n u5.c, .slice u6.A u6.n u6.c, .slice (some ⟨gl, 0, none⟩) 2 2] 26)))
  have rd_23 := Aside0.mk (rd_13.out.below (below_alloc (Below.refl _ w1) (.cells #[.int .i64 v1, .int .i64 v2, .int .i64 v3, .int .i64 v4, .slice u5.A u5.n u5.c, .slice u6.A u6.n u6.c, .slice (some ⟨gl, 0, none⟩) 2 2] 26)))
  have HB_24 := Aside0.mk (below_step HB_15.out (below_alloc (Below.refl _ w1) (.cells #[.int .i64 v1, .int .i64 v2, .int .i64 v3, .int .i64 v4, .slice u5.A u5.n u5.c, .slice u6.A u6.n u6.c, .slice (some ⟨gl, 0, none⟩) 2 2] 26)))
  have Z_25 := Aside0.mk (show (w1.alloc (.cells #[.int .i64 v1, .int .i64 v2, .int .i64 v3, .int .i64 v4, .slice u5.A u5.n u5.c, .slice u6.A u6.n u6.c, .slice (some ⟨gl, 0, none⟩) 2 2] 26)).heap.size = w1.heap.size + 1 by simp)
  have bs_26 := Aside0.mk (Bx.new w1 26 #[.int .i64 v1, .int .i64 v2, .int .i64 v3, .int .i64 v4, .slice u5.A u5.n u5.c, .slice u6.A u6.n u6.c, .slice (some ⟨gl, 0, none⟩) 2 2])
  clear bo_14 l5_8 l6_9 l7_10 l8_11 rw_12 rd_13 HB_15
  have SK := Aside0.mk (so_sk l5_18.out l6_19.out l7_20.out l8_21.out rw_22.out (by have := Z_2.out; have := Z_6.out; have := Z_16.out; have := Z_q.out; have := Z_r.out; have := Z_25.out; omega) LN.out)
  obtain ⟨rd26c0, rd26c1, rd26c2⟩ := rd_23.out.cells3
  obtain ⟨bs27c0, bs27c1, bs27c2, bs27c3, bs27c4, bs27c5, bs27c6⟩ := bs_26.out.cells
  go_wp2_with fail
  clear rd26c0 rd26c1 rd26c2 bs27c0 bs27c1 bs27c2 bs27c3 bs27c4 bs27c5 bs27c6
  refine (impl_SketchOf.ok k v1 v2 v3 v4 true SK.out.rd K1.out).mono ?_
  rintro e w2 ⟨rfl, hb⟩
  have bo_29 := Aside0.mk (bo_17.out.below hb)
  have l5_30 := Aside0.mk (l5_18.out.below hb)
  have l6_31 := Aside0.mk (l6_19.out.below hb)
  have l7_32 := Aside0.mk (l7_20.out.below hb)
  have l8_33 := Aside0.mk (l8_21.out.below hb)
  have rw_34 := Aside0.mk (rw_22.out.below hb)
  have rd_35 := Aside0.mk (rd_23.out.below hb)
  have bs_36 := Aside0.mk (bs_26.out.below hb)
  have S_37 := Aside0.mk (SK.out.below hb)
  have HB_38 := Aside0.mk (below_step HB_24.out hb)
  have Z_39 := Aside0.mk (hb.size)
  clear bo_17 l5_18 l6_19 l7_20 l8_21 rw_22 rd_23 bs_26 SK HB_24 hb
  obtain ⟨bs39c0, bs39c1, bs39c2, bs39c3, bs39c4, bs39c5, bs39c6⟩ := bs_36.out.cells
  obtain ⟨bo40c0, bo40c1, bo40c2, bo40c3, bo40c4, bo40c5, bo40c6⟩ := bo_29.out.cells
  have fz42 := bo_29.out.fz
  go_wp2
  clear bs39c0 bs39c1 bs39c2 bs39c3 bs39c4 bs39c5 bs39c6 bo40c0 bo40c1 bo40c2 bo40c3 bo40c4 bo40c5 bo40c6 fz42
  have FB := Aside0.mk (bo_29.out.fill (.int .i64 v1) (.int .i64 v2) (.int .i64 v3) (.int .i64 v4) (.slice u5.A u5.n u5.c) (.slice u6.A u6.n u6.c) (.slice (some ⟨gl, 0, none⟩) 2 2))
  refine bodyPost_ret (results_ct rfl _ _ w.heap.size 26 #[.int .i64 v1, .int .i64 v2, .int .i64 v3, .int .i64 v4, .slice u5.A u5.n u5.c, .slice u6.A u6.n u6.c, .slice (some ⟨gl, 0, none⟩) 2 2] (0, 0) _ rfl FB.out.1 Try.underlying26 rfl (by kernel_rfl)) rfl ?_
  exact ⟨u5, u6, ⟨some ⟨gl, 0, none⟩, 2, 2⟩, c5, gl + 1, rfl, S_37.out.kp FB.out.2 (by have := Z_2.out; have := Z_6.out; have := Z_16.out; have := Z_q.out; have := Z_r.out; have := Z_25.out; have := Z_39.out; omega), ⟨by have := Z_2.out; have := Z_6.out; have := Z_16.out; have := Z_q.out; have := Z_r.out; have := Z_25.out; have := Z_39.out; omega, by have := Z_2.out; have := Z_6.out; have := Z_16.out; have := Z_q.out; have := Z_r.out; have := Z_25.out; have := Z_39.out; omega, by have := FB.out.2.kept.1; have := Z_2.out; have := Z_6.out; have := Z_16.out; have := Z_q.out; have := Z_r.out; have := Z_25.out; have := Z_39.out; omega⟩, below_kp HB_38.out FB.out.2 (by omega) HB_38.out.size⟩

theorem specGet_call (k : Nat) {w : World} {c : Nat} {A : Option Addr} {l : List Int} (a m : Int) (ns : List Int) (nx : Int) (t : Bool) (C : (Kd.int .u8).C w A l.length l) (lc : l.length ≤ c) (he : spec_l7Get.f k l a m = some (ns, nx, t)) :
    Calls Try.prog 41 #[.slice A l.length c, .int .i64 a, .int .i64 m] w fun e w' => ∃ (v : Sl) (a1 b1 : Nat), e = .returned (.tuple #[.slice v.A v.n v.c, .int .i64 nx, .bool t]) ∧ Iv w' a1 b1 v ns ∧ Made w w' a1 b1 ∧ Below w.heap.size w w' := by
  refine (spec_l7Get.calls k A c l a m ns nx t w C lc he).mono ?_
  rintro e w' ⟨v, rfl, hR, hb⟩
  obtain ⟨A1, c1, rfl⟩ := Kd.R_slice hR
  exact ⟨⟨A1, _, c1⟩, w.heap.size, w'.heap.size, rfl, Kd.R_mono (Kd.R_bound hR) (fun _ hk => hk.2.2.1), ⟨Nat.le_refl _, hb.size, Nat.le_refl _⟩, hb⟩

theorem so_sk2 {w : World} {u5 u6 u7 u8 : Sl} {gl c5 d5 c6 d6 c7 d7 c8 d8 : Nat} {l5 l6 l7 l8 : List Int} (h5 : Iv w c5 d5 u5 l5) (h6 : Iv w c6 d6 u6 l6) (h7 : Iv w c7 d7 u7 l7) (h8 : Iv w c8 d8 u8 l8) (hx : Bx w gl 23 #[.slice u7.A u7.n u7.c, .slice u8.A u8.n u8.c])
    (ho : d5 ≤ c6 ∧ d6 ≤ c7 ∧ d6 ≤ c8 ∧ (d7 ≤ c8 ∨ d8 ≤ c7) ∧ d7 ≤ gl ∧ d8 ≤ gl ∧ c5 ≤ d5 ∧ c6 ≤ d6 ∧ c7 ≤ d7 ∧ c8 ≤ d8) (ln : l5.length = 8 ∧ l6.length = 8 ∧ l7.length = 4 ∧ l8.length = 4) : Sk w c5 (gl + 1) u5 u6 ⟨some ⟨gl, 0, none⟩, 2, 2⟩ l5 l6 [l7, l8] := by
  have b5 := (Kd.R_bound h5).1
  have b6 := (Kd.R_bound h6).1
  obtain ⟨p7, k7, e7, x7, y7, _⟩ := Kd.R_form h7 (by omega)
  obtain ⟨p8, k8, e8, x8, y8, _⟩ := Kd.R_form h8 (by omega)
  have z7 := (Kd.R_bound h7).1 p7 (by rw [e7]; simp [Value.ownBlock])
  have z8 := (Kd.R_bound h8).1 p8 (by rw [e8]; simp [Value.ownBlock])
  obtain ⟨A7, n7, m7⟩ := u7
  obtain ⟨A8, n8, m8⟩ := u8
  injection e7 with i1 i2 i3
  injection e8 with i4 i5 i6
  subst i1 i2 i3 i4 i5 i6
  refine ⟨Kd.R_mono h5 (fun _ hk => by omega), Kd.R_lower (Kd.R_reok rfl h6 (fun k hk => ⟨by have := b6 k hk; omega, fun e => by have := b6 k hk; have := b5 k e.symm; omega⟩)) (by omega), ?_⟩
  refine lit_S (W := w) (base := c5) (p0 := p7) (p1 := p8) rfl rfl hx (Kd.R_lower (Kd.R_reok rfl h7 (fun k hk => by
    have : p7 = k := by simpa [Value.ownBlock] using hk
    exact this.symm)) (by omega)) (Kd.R_lower (Kd.R_reok rfl h8 (fun k hk => by
    have : p8 = k := by simpa [Value.ownBlock] using hk
    exact this.symm)) (by omega)) ⟨by omega, by omega, by omega⟩ (by omega) ⟨⟨by omega, ?_, ?_⟩, ⟨by omega, ?_, ?_⟩, ⟨by omega, ?_, ?_⟩⟩
  all_goals
    intro e
    first
      | (have := b5 _ e.symm; omega)
      | (have := b6 _ e.symm; omega)
theorem spec_SketchOf.ok (k : Nat) {w : World} {x y z : Sl} {h r : List Int} {R : List (List Int)} (c s lo hi : Int) (t : Bool) (u : Rd w x y z h r R) (he : spec_SketchOk.f k c s lo hi h r R = some t) :
    Calls Try.prog 39 #[.agg #[.int .i64 c, .int .i64 s, .int .i64 lo, .int .i64 hi, .slice x.A x.n x.c, .slice y.A y.n y.c, .slice z.A z.n z.c]] w fun e w' => e = .returned (.bool t) ∧ Below w.heap.size w w' := by
  rw [u.e4, u.e5, u.e6]
  exact spec_SketchOk.calls k c s lo hi _ _ h _ _ r _ _ R t w u.C4 u.l4 u.C5 u.l5 u.C6 u.l6 he

theorem at_ {w : World} {o : Obj} {g : Nat} (h : g = w.heap.size) : (w.alloc o).heap[g]? = some o := by
  subst h
  exact blk_new w o
theorem below_hold {w9 W wz : World} {G : Prop} (h : Below w9.heap.size w9 W) (hb : Below W.heap.size W wz) (k : Below w9.heap.size w9 wz → (w9.heap.size ≤ W.heap.size ∧ W.heap.size ≤ wz.heap.size) → G) : G := k (below_step h hb) ⟨h.size, hb.size⟩
theorem iv_hold {w8 W wz : World} {G : Prop} {a b : Nat} {v : Sl} {l : List Int} (j : Iv w8 a b v l) (h : Below w8.heap.size w8 W) (hb : Below W.heap.size W wz) (k : Iv wz a b v l → G) : G := k ((j.below h).below hb)
theorem sz_al (w : World) (o : Obj) : (w.alloc o).heap.size = w.heap.size + 1 := by simp
theorem sz_dr (w : World) : w.drew.heap.size = w.heap.size := by simp
theorem app0_step {ops : Array Oper} {o : Oper} {a : Act} {W : World} {K : Act → World → Prop} {Q : Exit → Act → World → Prop} {E : Prop} (hg : o.guard = none) (s x : Operand) (hop : o.op = Op.call { callee := Callee.builtin Builtin.append, args := #[s, x], argTypes := #[23, 23] })
    (m g c : Nat) (ad : Addr) (ys : List Int) (hs : a.eval s = .slice (some ⟨g, 0, none⟩) 0 0) (hx : a.eval x = .slice (some ad) m c) (HR : (Kd.int .i64).C W (some ad) m ys) (hm : 0 < m) (hm2 : m ≤ 100)
    (hK : ∀ A c' w', Iv w' W.heap.size w'.heap.size ⟨A, m, c'⟩ ys → Below W.heap.size W w' → K (a.put o.dst (.slice A m c')) w') : if Region.wanted o (yielded ops a.tmps) = true then Oper.wp Try.prog o a W K Q else E := by
  obtain ⟨i0, hi0_, hz0, hsz, hby⟩ := info_parts info3
  have hlen : ys.length = m := HR.1
  refine step_append_grows hg s x 23 hop 3 i0 (.int .i64 0) 1 8 Try.underlying23 hi0_ hz0 hsz hby rfl (by omega) (some ⟨g, 0, none⟩) 0 0 [] hs (fun h => by cases h) rfl (fun _ _ j u h => by simp at h) ad m c (ys.map (Value.int .i64)) hx (by rw [List.length_map]; omega) (fun j u hj => ?_) (fun u hu => ?_) (by omega) (by simp [maxLen]; omega) (by omega) ?_
  · rw [List.getElem?_map] at hj
    obtain ⟨p, hp, rfl⟩ := Option.map_eq_some_iff.1 hj
    have HR2 := HR.2.2
    obtain ⟨ad', e, hc⟩ := HR2 (by omega)
    have e' := Option.some.inj e
    subst e'
    obtain ⟨cs, h1, h2, h3⟩ := hc j p hp
    have h2' : cs = [Value.int .i64 p] := h2
    subst h2'
    have := h3 0 _ rfl
    rw [show (Kd.int .i64).sz = 1 from rfl, Nat.mul_one, Nat.add_zero] at this
    exact this
  · obtain ⟨p, _, rfl⟩ := List.mem_map.1 hu
    rfl
  · intro v' w' hown hgrow
    have hb : Below W.heap.size W w' := ⟨hgrow.os, hgrow.tape, hgrow.output, hgrow.size, fun i hi => hgrow.block i hi (by simp)⟩
    rw [Nat.zero_add, List.nil_append] at hown
    have hR : Kd.R (Kd.int .i64) 3 w' W.heap.size (fun _ => True) v' ys := by
      refine ⟨fun _ _ => trivial, ys.map (Value.int .i64), ?_, ?_, fun j p hj => ?_⟩
      · rw [hlen]; exact hown
      · rw [List.length_map]; exact (Nat.mul_one _).symm
      · show ((ys.map (Value.int .i64)).drop (j * 1)).take 1 = [Value.int .i64 p]
        have hl : j < ys.length := (List.getElem?_eq_some_iff.1 hj).1
        rw [Nat.mul_one, List.drop_eq_getElem_cons (by simpa using hl)]
        simp only [List.take_succ_cons, List.take_zero, List.getElem_map]
        rw [(List.getElem?_eq_some_iff.1 hj).2]
    obtain ⟨A, c', rfl⟩ := Kd.R_slice hR
    rw [hlen] at hR
    rw [hlen]
    exact hK A c' w' (Kd.R_mono (Kd.R_bound hR) (fun _ hk => hk.2.2.1)) hb
theorem lit0 {W : World} {g : Nat} (hg : W.heap[g]? = some (.cells #[] 3 (0, 0))) : Kd.R (Kd.int .i64) 3 W g (fun _ => True) (.slice (some ⟨g, 0, none⟩) 0 0) [] :=
  ⟨fun _ _ => trivial, [], ⟨rfl, .inr ⟨g, 0, _, rfl, Nat.le_refl _, hg, Nat.le_refl _, by simp [maxLen], rfl, rfl⟩⟩, Reps.none _ _⟩
set_option maxHeartbeats 8000000 in
theorem spec_SketchOf.yes (k : Nat) {w : World} {c : Nat} {A : Option Addr} {l : List Int} (ns : List Int) (U0 : Aside0 ((Kd.int .u8).C w A l.length l)) (L0 : Aside0 (l.length ≤ c)) (K0 : Aside0 (spec_l7Get.f k l 0 28 = some (ns, (l.length : Int), true))) (LN : Aside0 (ns.length = 28)) (c0 s0 lo0 hi0 : Int) (h r l7 l8 : List Int) (LL : Aside0 (h.length = 8 ∧ r.length = 8 ∧ l7.length = 4 ∧ l8.length = 4)) (HN : Aside0 (ns.getD 0 0 = c0 ∧ ns.getD 1 0 = s0 ∧ ns.getD 2 0 = lo0 ∧ ns.getD 3 0 = hi0 ∧ (ns.take 12).drop 4 = h ∧ (ns.take 20).drop 12 = r ∧ (ns.take 24).drop 20 = l7 ∧ ns.drop 24 = l8)) (K1 : Aside0 (spec_SketchOk.f k c0 s0 lo0 hi0 h r [l7, l8] = some true)) :
    Calls Try.prog 9 #[.slice A l.length c] w (SkOut w c0 s0 lo0 hi0 h r [l7, l8] true) := by
  have HB0 := Aside0.mk (Below.refl w.heap.size w)
  go_enter Try.func9, Try.ntmps9
  have HB_1 := Aside0.mk (below_step HB0.out (below_alloc (Below.refl _ w) (.cells #[.int .i64 0, .int .i64 0, .int .i64 0, .int .i64 0, .slice none 0 0, .slice none 0 0, .slice none 0 0] 26)))
  have Z_2 := Aside0.mk (show (w.alloc (.cells #[.int .i64 0, .int .i64 0, .int .i64 0, .int .i64 0, .slice none 0 0, .slice none 0 0, .slice none 0 0] 26)).heap.size = w.heap.size + 1 by simp)
  have bo_3 := Aside0.mk (Bx.new w 26 #[.int .i64 0, .int .i64 0, .int .i64 0, .int .i64 0, .slice none 0 0, .slice none 0 0, .slice none 0 0])
  clear HB0
  go_wp2_with fail
  refine (specGet_call k 0 28 ns (l.length : Int) true (Kd.C_below U0.out HB_1.out) L0.out K0.out).mono ?_
  rintro e w1 ⟨u0, e0, f0, rfl, hi, hm, hb⟩
  have ns_4 := Aside0.mk hi
  clear hi
  have Z_5 := Aside0.mk hm
  clear hm
  unfold Made at Z_5
  have bo_6 := Aside0.mk (bo_3.out.below hb)
  have HB_7 := Aside0.mk (below_step HB_1.out hb)
  have Z_8 := Aside0.mk (hb.size)
  clear bo_3 HB_1 hb
  obtain ⟨p, hp, hp1, P, hp2, _⟩ := rowI_put (b := f0) ns_4.out (by rw [LN.out]; omega) (fun _ hk => hk)
  obtain ⟨Au, nu, kc⟩ := u0
  simp only at hp hp2
  rw [LN.out] at hp2
  subst hp hp2
  have KC := Aside0.mk (show 28 ≤ kc from by have := (Kd.R_reads' ns_4.out).2.1; have := LN.out; omega)
  have hpl := P.lt
  have Z_p := Aside0.mk (And.intro P.lo P.hi)
  have x0 : w1.cell? ⟨p, 0, none⟩ = some (.int .i64 c0) := by have := P.at_ (i := 0) (by rw [LN.out]; omega); rw [HN.out.1] at this; exact this
  have y0 : ∀ o, (w1.drew.alloc o).cell? ⟨p, 0, none⟩ = some (.int .i64 c0) := fun o => (below_alloc (below_drew (Below.refl _ w1)) o).cell P.lt |>.trans x0
  have x1 : w1.cell? ⟨p, 1, none⟩ = some (.int .i64 s0) := by have := P.at_ (i := 1) (by rw [LN.out]; omega); rw [HN.out.2.1] at this; exact this
  have y1 : ∀ o, (w1.drew.alloc o).cell? ⟨p, 1, none⟩ = some (.int .i64 s0) := fun o => (below_alloc (below_drew (Below.refl _ w1)) o).cell P.lt |>.trans x1
  have x2 : w1.cell? ⟨p, 2, none⟩ = some (.int .i64 lo0) := by have := P.at_ (i := 2) (by rw [LN.out]; omega); rw [HN.out.2.2.1] at this; exact this
  have y2 : ∀ o, (w1.drew.alloc o).cell? ⟨p, 2, none⟩ = some (.int .i64 lo0) := fun o => (below_alloc (below_drew (Below.refl _ w1)) o).cell P.lt |>.trans x2
  have x3 : w1.cell? ⟨p, 3, none⟩ = some (.int .i64 hi0) := by have := P.at_ (i := 3) (by rw [LN.out]; omega); rw [HN.out.2.2.2.1] at this; exact this
  have y3 : ∀ o, (w1.drew.alloc o).cell? ⟨p, 3, none⟩ = some (.int .i64 hi0) := fun o => (below_alloc (below_drew (Below.refl _ w1)) o).cell P.lt |>.trans x3
  go_upto_region 5 with (fail)
  go_region
  clear x0 y0 x1 y1 x2 y2 x3 y3 P hpl
  have bo_9 := Aside0.mk (bo_6.out.below (below_alloc (Below.refl _ w1) (.cells #[.int .i64 c0, .int .i64 s0, .int .i64 lo0, .int .i64 hi0, .slice none 0 0, .slice none 0 0, .slice none 0 0] 26)))
  have ns_10 := Aside0.mk (ns_4.out.below (below_alloc (Below.refl _ w1) (.cells #[.int .i64 c0, .int .i64 s0, .int .i64 lo0, .int .i64 hi0, .slice none 0 0, .slice none 0 0, .slice none 0 0] 26)))
  have HB_11 := Aside0.mk (below_step HB_7.out (below_alloc (Below.refl _ w1) (.cells #[.int .i64 c0, .int .i64 s0, .int .i64 lo0, .int .i64 hi0, .slice none 0 0, .slice none 0 0, .slice none 0 0] 26)))
  have Z_12 := Aside0.mk (show (w1.alloc (.cells #[.int .i64 c0, .int .i64 s0, .int .i64 lo0, .int .i64 hi0, .slice none 0 0, .slice none 0 0, .slice none 0 0] 26)).heap.size = w1.heap.size + 1 by simp)
  have b8_13 := Aside0.mk (Bx.new w1 26 #[.int .i64 c0, .int .i64 s0, .int .i64 lo0, .int .i64 hi0, .slice none 0 0, .slice none 0 0, .slice none 0 0])
  clear bo_6 ns_4 HB_7
  have bo_14 := Aside0.mk (bo_9.out.below (below_drew (Below.refl _ (w1.alloc (.cells #[.int .i64 c0, .int .i64 s0, .int .i64 lo0, .int .i64 hi0, .slice none 0 0, .slice none 0 0, .slice none 0 0] 26)))))
  have ns_15 := Aside0.mk (ns_10.out.below (below_drew (Below.refl _ (w1.alloc (.cells #[.int .i64 c0, .int .i64 s0, .int .i64 lo0, .int .i64 hi0, .slice none 0 0, .slice none 0 0, .slice none 0 0] 26)))))
  have b8_16 := Aside0.mk (b8_13.out.below (below_drew (Below.refl _ (w1.alloc (.cells #[.int .i64 c0, .int .i64 s0, .int .i64 lo0, .int .i64 hi0, .slice none 0 0, .slice none 0 0, .slice none 0 0] 26)))))
  have HB_17 := Aside0.mk (below_step HB_11.out (below_drew (Below.refl _ (w1.alloc (.cells #[.int .i64 c0, .int .i64 s0, .int .i64 lo0, .int .i64 hi0, .slice none 0 0, .slice none 0 0, .slice none 0 0] 26)))))
  have Z_18 := Aside0.mk (show (w1.alloc (.cells #[.int .i64 c0, .int .i64 s0, .int .i64 lo0, .int .i64 hi0, .slice none 0 0, .slice none 0 0, .slice none 0 0] 26)).drew.heap.size = (w1.alloc (.cells #[.int .i64 c0, .int .i64 s0, .int .i64 lo0, .int .i64 hi0, .slice none 0 0, .slice none 0 0, .slice none 0 0] 26)).heap.size by simp)
  clear bo_9 ns_10 b8_13 HB_11
  obtain ⟨i0, hi0_, _, hsz, _⟩ := info_parts info3
  have hcut1 : ∀ W : World, (Instr.slice 23 (.slice (some ⟨p, 0, none⟩) 28 kc) (some (.int .i64 4)) (some (.int .i64 12)) none).run Try.prog W = .ok (.slice (some ⟨p, 4, none⟩) 8 (kc - 4)) W := by intro W; have := cut_mid (P := Try.prog) 23 3 .i64 .i64 Try.underlying23 hi0_ 1 hsz (some ⟨p, 0, none⟩) 28 kc 4 12 (by omega) (by omega) (by omega) KC.out W; rw [if_neg (by have := KC.out; omega)] at this; exact this
  have hcut2 : ∀ W : World, (Instr.slice 23 (.slice (some ⟨p, 0, none⟩) 28 kc) (some (.int .i64 12)) (some (.int .i64 20)) none).run Try.prog W = .ok (.slice (some ⟨p, 12, none⟩) 8 (kc - 12)) W := by intro W; have := cut_mid (P := Try.prog) 23 3 .i64 .i64 Try.underlying23 hi0_ 1 hsz (some ⟨p, 0, none⟩) 28 kc 12 20 (by omega) (by omega) (by omega) KC.out W; rw [if_neg (by have := KC.out; omega)] at this; exact this
  have hcut3 : ∀ W : World, (Instr.slice 23 (.slice (some ⟨p, 0, none⟩) 28 kc) (some (.int .i64 20)) (some (.int .i64 24)) none).run Try.prog W = .ok (.slice (some ⟨p, 20, none⟩) 4 (kc - 20)) W := by intro W; have := cut_mid (P := Try.prog) 23 3 .i64 .i64 Try.underlying23 hi0_ 1 hsz (some ⟨p, 0, none⟩) 28 kc 20 24 (by omega) (by omega) (by omega) KC.out W; rw [if_neg (by have := KC.out; omega)] at this; exact this
  have hcut4 : ∀ W : World, (Instr.slice 23 (.slice (some ⟨p, 0, none⟩) 28 kc) (some (.int .i64 24)) none none).run Try.prog W = .ok (.slice (some ⟨p, 24, none⟩) 4 (kc - 24)) W := by intro W; have := cut_from (P := Try.prog) 23 3 .i64 Try.underlying23 hi0_ 1 hsz (some ⟨p, 0, none⟩) 28 kc 24 (by omega) (by omega) W; rw [if_neg (by have := KC.out; omega)] at this; exact this
  clear hsz hi0_
  have CR1 := Aside0.mk (show ∀ W : World, Iv W e0 f0 ⟨some ⟨p, 0, none⟩, 28, kc⟩ ns → (Kd.int .i64).C W (some ⟨p, 4, none⟩) 8 h from fun W I => by have u := (Kd.R_reads' I).2.2; have := Kd.C_mid (lo := 4) (hi := 12) (c := kc) u (by omega) (by rw [LN.out]; omega) (by have := KC.out; rw [LN.out]; omega); rw [if_neg (by have := KC.out; omega), HN.out.2.2.2.2.1] at this; rw [show h.length = 8 from by rw [← HN.out.2.2.2.2.1, List.length_drop, List.length_take, LN.out]; omega] at this; exact this)
  have CR2 := Aside0.mk (show ∀ W : World, Iv W e0 f0 ⟨some ⟨p, 0, none⟩, 28, kc⟩ ns → (Kd.int .i64).C W (some ⟨p, 12, none⟩) 8 r from fun W I => by have u := (Kd.R_reads' I).2.2; have := Kd.C_mid (lo := 12) (hi := 20) (c := kc) u (by omega) (by rw [LN.out]; omega) (by have := KC.out; rw [LN.out]; omega); rw [if_neg (by have := KC.out; omega), HN.out.2.2.2.2.2.1] at this; rw [show r.length = 8 from by rw [← HN.out.2.2.2.2.2.1, List.length_drop, List.length_take, LN.out]; omega] at this; exact this)
  have CR3 := Aside0.mk (show ∀ W : World, Iv W e0 f0 ⟨some ⟨p, 0, none⟩, 28, kc⟩ ns → (Kd.int .i64).C W (some ⟨p, 20, none⟩) 4 l7 from fun W I => by have u := (Kd.R_reads' I).2.2; have := Kd.C_mid (lo := 20) (hi := 24) (c := kc) u (by omega) (by rw [LN.out]; omega) (by have := KC.out; rw [LN.out]; omega); rw [if_neg (by have := KC.out; omega), HN.out.2.2.2.2.2.2.1] at this; rw [show l7.length = 4 from by rw [← HN.out.2.2.2.2.2.2.1, List.length_drop, List.length_take, LN.out]; omega] at this; exact this)
  have CR4 := Aside0.mk (show ∀ W : World, Iv W e0 f0 ⟨some ⟨p, 0, none⟩, 28, kc⟩ ns → (Kd.int .i64).C W (some ⟨p, 24, none⟩) 4 l8 from fun W I => by have u := (Kd.R_reads' I).2.2; have := Kd.C_drop (m := 24) (c := kc) u (by rw [LN.out]; omega) (by have := KC.out; rw [LN.out]; omega); rw [if_neg (by have := KC.out; omega), HN.out.2.2.2.2.2.2.2] at this; rw [show l8.length = 4 from by rw [← HN.out.2.2.2.2.2.2.2, List.length_drop, LN.out]] at this; exact this)
  obtain ⟨b818c0, b818c1, b818c2, b818c3, b818c4, b818c5, b818c6⟩ := b8_16.out.cells
  have fz20 := b8_16.out.fz
  go_upto_region 8 with (first | ((with_reducible refine gate_dst (N := 39) rfl ?_); refine Kd.R_lit (Kd.int .i64) _ 3 ?hg (N := 39) ?hd (xs := ([] : List Int)) (inner := []) (ok := fun _ => True) (okp := fun _ => True) ?hr ?hp (fun _ hk => hk) trivial (Below.refl _ _) (Nat.le_refl _) (by simp) ?_; (case hd => rfl); (case hg => rfl); (case hr => first | (go_simp; done) | (go_simp; rfl)); (case hp => exact (Reps.none _ _)); intro vl wl ho hb hg_ hnew_; clear hg_ hnew_; have T1 := Aside0.mk ho; have T2 := Aside0.mk hb; clear ho hb) | ((with_reducible refine gate_builtin (b := .append) (xs := #[.tmp 39, .tmp 44]) rfl ?_); at_builtin; refine Kd.R_append_rows (Kd.int .i64) (w0 := _) _ rfl (.tmp 39) (.tmp 44) 23 3 (.int .i64 0) 8 rfl Try.underlying23 info3 rfl (by decide) (by omega) _ ([] : List Int) h _ _ _ (fun _ => True) (fun _ => False) rfl rfl T1.out (CR1.out _ (ns_15.out.below T2.out)) (fun _ _ h => h) (fun _ h => h.elim) (fun _ _ => trivial) T2.out T2.out.size (by simp) ?_; intro vl2 w2 ho hb hg_ hat_; clear hg_ hat_ T1 T2; rw [List.nil_append] at ho; obtain ⟨A2, m2, rfl⟩ := Kd.R_slice ho; rw [show h.length = 8 from LL.out.1] at ho; rw [show h.length = 8 from LL.out.1]; have fh_21 := Aside0.mk (show Iv w2 _ w2.heap.size ⟨A2, 8, m2⟩ h from Kd.R_mono (Kd.R_bound ho) (fun _ hk => hk.2.2.1)); clear ho; have bo_22 := Aside0.mk (bo_14.out.below hb); have ns_23 := Aside0.mk (ns_15.out.below hb); have b8_24 := Aside0.mk (b8_16.out.below hb); have HB_25 := Aside0.mk (below_step HB_17.out hb); have Z_26 := Aside0.mk (hb.size); clear bo_14 ns_15 b8_16 HB_17 hb; obtain ⟨b826c0, b826c1, b826c2, b826c3, b826c4, b826c5, b826c6⟩ := b8_24.out.cells; have fz28 := b8_24.out.fz))
  try clear b818c0 b818c1 b818c2 b818c3 b818c4 b818c5 b818c6 fz20 b826c0 b826c1 b826c2 b826c3 b826c4 b826c5 b826c6 fz28
  have KS_29 := Aside0.mk (Kp.set (w := w2) (a := w1.heap.size) (b := w1.heap.size + 1) (j := 4) ⟨Nat.le_refl _, Nat.lt_succ_self _⟩ (.slice A2 8 m2))
  have bo_30 := Aside0.mk (bo_22.out.kp KS_29.out (by have := Z_2.out; have := Z_5.out; have := Z_8.out; have := Z_p.out; have := Z_12.out; have := Z_18.out; have := Z_26.out; omega))
  have ns_31 := Aside0.mk (ns_23.out.kp KS_29.out (by have := Z_2.out; have := Z_5.out; have := Z_8.out; have := Z_p.out; have := Z_12.out; have := Z_18.out; have := Z_26.out; omega))
  have b8_32 := Aside0.mk (show Bx (w2.setCell ⟨w1.heap.size, 4, none⟩ (.slice A2 8 m2)) (w1.heap.size) 26 #[.int .i64 c0, .int .i64 s0, .int .i64 lo0, .int .i64 hi0, .slice A2 8 m2, .slice none 0 0, .slice none 0 0] from blk_put b8_24.out 4 _ rfl)
  have fh_33 := Aside0.mk (fh_21.out.kp KS_29.out (by have := Z_2.out; have := Z_5.out; have := Z_8.out; have := Z_p.out; have := Z_12.out; have := Z_18.out; have := Z_26.out; omega))
  have HB_34 := Aside0.mk (below_kp HB_25.out KS_29.out (by have := Z_2.out; have := Z_5.out; have := Z_8.out; have := Z_p.out; have := Z_12.out; have := Z_18.out; have := Z_26.out; omega) HB_25.out.size)
  have Z_35 := Aside0.mk (show (w2.setCell ⟨w1.heap.size, 4, none⟩ (.slice A2 8 m2)).heap.size = w2.heap.size by simp)
  clear bo_22 ns_23 b8_24 fh_21 HB_25 KS_29
  obtain ⟨b835c0, b835c1, b835c2, b835c3, b835c4, b835c5, b835c6⟩ := b8_32.out.cells
  have fz37 := b8_32.out.fz
  go_upto_region 10 with (first | ((with_reducible refine gate_dst (N := 49) rfl ?_); refine Kd.R_lit (Kd.int .i64) _ 3 ?hg (N := 49) ?hd (xs := ([] : List Int)) (inner := []) (ok := fun _ => True) (okp := fun _ => True) ?hr ?hp (fun _ hk => hk) trivial (Below.refl _ _) (Nat.le_refl _) (by simp) ?_; (case hd => rfl); (case hg => rfl); (case hr => first | (go_simp; done) | (go_simp; rfl)); (case hp => exact (Reps.none _ _)); intro vl wl ho hb hg_ hnew_; clear hg_ hnew_; have T1 := Aside0.mk ho; have T2 := Aside0.mk hb; clear ho hb) | ((with_reducible refine gate_builtin (b := .append) (xs := #[.tmp 49, .tmp 54]) rfl ?_); at_builtin; refine Kd.R_append_rows (Kd.int .i64) (w0 := _) _ rfl (.tmp 49) (.tmp 54) 23 3 (.int .i64 0) 8 rfl Try.underlying23 info3 rfl (by decide) (by omega) _ ([] : List Int) r _ _ _ (fun _ => True) (fun _ => False) rfl rfl T1.out (CR2.out _ (ns_31.out.below T2.out)) (fun _ _ h => h) (fun _ h => h.elim) (fun _ _ => trivial) T2.out T2.out.size (by simp) ?_; intro vl2 w3 ho hb hg_ hat_; clear hg_ hat_ T1 T2; rw [List.nil_append] at ho; obtain ⟨A3, m3, rfl⟩ := Kd.R_slice ho; rw [show r.length = 8 from LL.out.2.1] at ho; rw [show r.length = 8 from LL.out.2.1]; have fr_38 := Aside0.mk (show Iv w3 _ w3.heap.size ⟨A3, 8, m3⟩ r from Kd.R_mono (Kd.R_bound ho) (fun _ hk => hk.2.2.1)); clear ho; have bo_39 := Aside0.mk (bo_30.out.below hb); have ns_40 := Aside0.mk (ns_31.out.below hb); have b8_41 := Aside0.mk (b8_32.out.below hb); have fh_42 := Aside0.mk (fh_33.out.below hb); have HB_43 := Aside0.mk (below_step HB_34.out hb); have Z_44 := Aside0.mk (hb.size); clear bo_30 ns_31 b8_32 fh_33 HB_34 hb; obtain ⟨b844c0, b844c1, b844c2, b844c3, b844c4, b844c5, b844c6⟩ := b8_41.out.cells; have fz46 := b8_41.out.fz))
  try clear b835c0 b835c1 b835c2 b835c3 b835c4 b835c5 b835c6 fz37 b844c0 b844c1 b844c2 b844c3 b844c4 b844c5 b844c6 fz46
  have KS_47 := Aside0.mk (Kp.set (w := w3) (a := w1.heap.size) (b := w1.heap.size + 1) (j := 5) ⟨Nat.le_refl _, Nat.lt_succ_self _⟩ (.slice A3 8 m3))
  have bo_48 := Aside0.mk (bo_39.out.kp KS_47.out (by have := Z_2.out; have := Z_5.out; have := Z_8.out; have := Z_p.out; have := Z_12.out; have := Z_18.out; have := Z_26.out; have := Z_35.out; have := Z_44.out; omega))
  have ns_49 := Aside0.mk (ns_40.out.kp KS_47.out (by have := Z_2.out; have := Z_5.out; have := Z_8.out; have := Z_p.out; have := Z_12.out; have := Z_18.out; have := Z_26.out; have := Z_35.out; have := Z_44.out; omega))
  have b8_50 := Aside0.mk (show Bx (w3.setCell ⟨w1.heap.size, 5, none⟩ (.slice A3 8 m3)) (w1.heap.size) 26 #[.int .i64 c0, .int .i64 s0, .int .i64 lo0, .int .i64 hi0, .slice A2 8 m2, .slice A3 8 m3, .slice none 0 0] from blk_put b8_41.out 5 _ rfl)
  have fh_51 := Aside0.mk (fh_42.out.kp KS_47.out (by have := Z_2.out; have := Z_5.out; have := Z_8.out; have := Z_p.out; have := Z_12.out; have := Z_18.out; have := Z_26.out; have := Z_35.out; have := Z_44.out; omega))
  have fr_52 := Aside0.mk (fr_38.out.kp KS_47.out (by have := Z_2.out; have := Z_5.out; have := Z_8.out; have := Z_p.out; have := Z_12.out; have := Z_18.out; have := Z_26.out; have := Z_35.out; have := Z_44.out; omega))
  have HB_53 := Aside0.mk (below_kp HB_43.out KS_47.out (by have := Z_2.out; have := Z_5.out; have := Z_8.out; have := Z_p.out; have := Z_12.out; have := Z_18.out; have := Z_26.out; have := Z_35.out; have := Z_44.out; omega) HB_43.out.size)
  have Z_54 := Aside0.mk (show (w3.setCell ⟨w1.heap.size, 5, none⟩ (.slice A3 8 m3)).heap.size = w3.heap.size by simp)
  clear bo_39 ns_40 b8_41 fh_42 fr_38 HB_43 KS_47
  go_upto_region 11 with (fail)
  generalize hW9 : (w3.setCell ⟨w1.heap.size, 5, none⟩ (.slice A3 8 m3)) = w9 at *
  clear hW9
  have HQ := Aside0.mk (Below.refl w9.heap.size w9)
  have hsum : IntKind.i64.wrap 24 = 24 := by first | rfl | decide
  go_region_law (first | (refine app0_step rfl (.tmp 59) (.tmp 64) rfl 4 _ _ _ l7 rfl rfl ?cr (by omega) (by omega) ?_; (case cr => refine CR3.out _ (Iv.below ns_49.out ?_); (repeat (first | (with_reducible exact HQ.out) | (with_reducible refine below_alloc ?_ _) | (with_reducible refine below_drew ?_)))); intro A65 m65 wz ho hb; refine below_hold (w9 := w9) ?bs hb (fun HQ1 SZ1 => ?_); (case bs => (repeat (first | (with_reducible exact HQ.out) | (with_reducible refine below_alloc ?_ _) | (with_reducible refine below_drew ?_)))); (first | (refine iv_hold J71.out ?b2 hb (fun j_ => ?_); (case b2 => (repeat (first | (with_reducible exact Below.refl _ _) | (with_reducible refine below_alloc ?_ _) | (with_reducible refine below_drew ?_)))); (have K71 := Aside0.mk j_); (clear j_); (clear J71); (have J71 := K71); (clear K71)) | skip); have J65 := Aside0.mk ho; have S65 := Aside0.mk SZ1; clear SZ1; (try simp only [sz_al, sz_dr] at S65 J65); clear ho hb HQ; have HQ := Aside0.mk HQ1; clear HQ1; have fb8 := fun (o : Obj) i => Bx.fz ((b8_50.out.below HQ.out).below (below_alloc (Below.refl _ _) o)) i; obtain ⟨z0, z1, z2, z3, z4, z5, z6⟩ := (b8_50.out.below HQ.out).cellsA) | (refine app0_step rfl (.tmp 66) (.tmp 70) rfl 4 _ _ _ l8 rfl rfl ?cr (by omega) (by omega) ?_; (case cr => refine CR4.out _ (Iv.below ns_49.out ?_); (repeat (first | (with_reducible exact HQ.out) | (with_reducible refine below_alloc ?_ _) | (with_reducible refine below_drew ?_)))); intro A71 m71 wz ho hb; refine below_hold (w9 := w9) ?bs hb (fun HQ1 SZ1 => ?_); (case bs => (repeat (first | (with_reducible exact HQ.out) | (with_reducible refine below_alloc ?_ _) | (with_reducible refine below_drew ?_)))); (first | (refine iv_hold J65.out ?b2 hb (fun j_ => ?_); (case b2 => (repeat (first | (with_reducible exact Below.refl _ _) | (with_reducible refine below_alloc ?_ _) | (with_reducible refine below_drew ?_)))); (have K65 := Aside0.mk j_); (clear j_); (clear J65); (have J65 := K65); (clear K65)) | skip); have J71 := Aside0.mk ho; have S71 := Aside0.mk SZ1; clear SZ1; (try simp only [sz_al, sz_dr] at S71 J71); clear ho hb HQ; have HQ := Aside0.mk HQ1; clear HQ1; have fb8 := fun (o : Obj) i => Bx.fz ((b8_50.out.below HQ.out).below (below_alloc (Below.refl _ _) o)) i; obtain ⟨z0, z1, z2, z3, z4, z5, z6⟩ := (b8_50.out.below HQ.out).cellsA))
  all_goals
    clear fb8 z0 z1 z2 z3 z4 z5 z6
    have hb := HQ.out
    have bo_55 := Aside0.mk (bo_48.out.below hb)
    have ns_56 := Aside0.mk (ns_49.out.below hb)
    have b8_57 := Aside0.mk (b8_50.out.below hb)
    have fh_58 := Aside0.mk (fh_51.out.below hb)
    have fr_59 := Aside0.mk (fr_52.out.below hb)
    have HB_60 := Aside0.mk (below_step HB_53.out hb)
    have Z_61 := Aside0.mk (hb.size)
    clear bo_48 ns_49 b8_50 fh_51 fr_52 HB_53 hb
    have bo_62 := Aside0.mk (bo_55.out.below (below_alloc (Below.refl _ wz) (.cells #[.slice A65 4 m65, .slice A71 4 m71] 23)))
    have ns_63 := Aside0.mk (ns_56.out.below (below_alloc (Below.refl _ wz) (.cells #[.slice A65 4 m65, .slice A71 4 m71] 23)))
    have b8_64 := Aside0.mk (b8_57.out.below (below_alloc (Below.refl _ wz) (.cells #[.slice A65 4 m65, .slice A71 4 m71] 23)))
    have fh_65 := Aside0.mk (fh_58.out.below (below_alloc (Below.refl _ wz) (.cells #[.slice A65 4 m65, .slice A71 4 m71] 23)))
    have fr_66 := Aside0.mk (fr_59.out.below (below_alloc (Below.refl _ wz) (.cells #[.slice A65 4 m65, .slice A71 4 m71] 23)))
    have l7_67 := Aside0.mk (J65.out.below (below_alloc (Below.refl _ wz) (.cells #[.slice A65 4 m65, .slice A71 4 m71] 23)))
    have l8_68 := Aside0.mk (J71.out.below (below_alloc (Below.refl _ wz) (.cells #[.slice A65 4 m65, .slice A71 4 m71] 23)))
    have HB_69 := Aside0.mk (below_step HB_60.out (below_alloc (Below.refl _ wz) (.cells #[.slice A65 4 m65, .slice A71 4 m71] 23)))
    have Z_70 := Aside0.mk (show (wz.alloc (.cells #[.slice A65 4 m65, .slice A71 4 m71] 23)).heap.size = wz.heap.size + 1 by simp)
    have rw_71 := Aside0.mk (Bx.new wz 23 #[.slice A65 4 m65, .slice A71 4 m71])
    clear bo_55 ns_56 b8_57 fh_58 fr_59 J65 J71 HB_60
    have KS_72 := Aside0.mk (Kp.set (w := (wz.alloc (.cells #[.slice A65 4 m65, .slice A71 4 m71] 23))) (a := w1.heap.size) (b := w1.heap.size + 1) (j := 6) ⟨Nat.le_refl _, Nat.lt_succ_self _⟩ (.slice (some ⟨wz.heap.size, 0, none⟩) 2 2))
    have bo_73 := Aside0.mk (bo_62.out.kp KS_72.out (by have := Z_2.out; have := Z_5.out; have := Z_8.out; have := Z_p.out; have := Z_12.out; have := Z_18.out; have := Z_26.out; have := Z_35.out; have := Z_44.out; have := Z_54.out; have := S65.out; have := S71.out; have := Z_61.out; have := Z_70.out; omega))
    have ns_74 := Aside0.mk (ns_63.out.kp KS_72.out (by have := Z_2.out; have := Z_5.out; have := Z_8.out; have := Z_p.out; have := Z_12.out; have := Z_18.out; have := Z_26.out; have := Z_35.out; have := Z_44.out; have := Z_54.out; have := S65.out; have := S71.out; have := Z_61.out; have := Z_70.out; omega))
    have b8_75 := Aside0.mk (show Bx ((wz.alloc (.cells #[.slice A65 4 m65, .slice A71 4 m71] 23)).setCell ⟨w1.heap.size, 6, none⟩ (.slice (some ⟨wz.heap.size, 0, none⟩) 2 2)) (w1.heap.size) 26 #[.int .i64 c0, .int .i64 s0, .int .i64 lo0, .int .i64 hi0, .slice A2 8 m2, .slice A3 8 m3, .slice (some ⟨wz.heap.size, 0, none⟩) 2 2] from blk_put b8_64.out 6 _ rfl)
    have fh_76 := Aside0.mk (fh_65.out.kp KS_72.out (by have := Z_2.out; have := Z_5.out; have := Z_8.out; have := Z_p.out; have := Z_12.out; have := Z_18.out; have := Z_26.out; have := Z_35.out; have := Z_44.out; have := Z_54.out; have := S65.out; have := S71.out; have := Z_61.out; have := Z_70.out; omega))
    have fr_77 := Aside0.mk (fr_66.out.kp KS_72.out (by have := Z_2.out; have := Z_5.out; have := Z_8.out; have := Z_p.out; have := Z_12.out; have := Z_18.out; have := Z_26.out; have := Z_35.out; have := Z_44.out; have := Z_54.out; have := S65.out; have := S71.out; have := Z_61.out; have := Z_70.out; omega))
    have l7_78 := Aside0.mk (l7_67.out.kp KS_72.out (by have := Z_2.out; have := Z_5.out; have := Z_8.out; have := Z_p.out; have := Z_12.out; have := Z_18.out; have := Z_26.out; have := Z_35.out; have := Z_44.out; have := Z_54.out; have := S65.out; have := S71.out; have := Z_61.out; have := Z_70.out; omega))
    have l8_79 := Aside0.mk (l8_68.out.kp KS_72.out (by have := Z_2.out; have := Z_5.out; have := Z_8.out; have := Z_p.out; have := Z_12.out; have := Z_18.out; have := Z_26.out; have := Z_35.out; have := Z_44.out; have := Z_54.out; have := S65.out; have := S71.out; have := Z_61.out; have := Z_70.out; omega))
    have rw_80 := Aside0.mk (rw_71.out.kp KS_72.out (by have := Z_2.out; have := Z_5.out; have := Z_8.out; have := Z_p.out; have := Z_12.out; have := Z_18.out; have := Z_26.out; have := Z_35.out; have := Z_44.out; have := Z_54.out; have := S65.out; have := S71.out; have := Z_61.out; have := Z_70.out; omega))
    have HB_81 := Aside0.mk (below_kp HB_69.out KS_72.out (by have := Z_2.out; have := Z_5.out; have := Z_8.out; have := Z_p.out; have := Z_12.out; have := Z_18.out; have := Z_26.out; have := Z_35.out; have := Z_44.out; have := Z_54.out; have := S65.out; have := S71.out; have := Z_61.out; have := Z_70.out; omega) HB_69.out.size)
    have Z_82 := Aside0.mk (show ((wz.alloc (.cells #[.slice A65 4 m65, .slice A71 4 m71] 23)).setCell ⟨w1.heap.size, 6, none⟩ (.slice (some ⟨wz.heap.size, 0, none⟩) 2 2)).heap.size = (wz.alloc (.cells #[.slice A65 4 m65, .slice A71 4 m71] 23)).heap.size by simp)
    clear bo_62 ns_63 b8_64 fh_65 fr_66 l7_67 l8_68 rw_71 HB_69 KS_72
    have SK := Aside0.mk (so_sk2 fh_76.out fr_77.out l7_78.out l8_79.out rw_80.out (by have := Z_2.out; have := Z_5.out; have := Z_8.out; have := Z_p.out; have := Z_12.out; have := Z_18.out; have := Z_26.out; have := Z_35.out; have := Z_44.out; have := Z_54.out; have := S65.out; have := S71.out; have := Z_61.out; have := Z_70.out; have := Z_82.out; omega) (by have := LL.out; exact this))
    obtain ⟨b882c0, b882c1, b882c2, b882c3, b882c4, b882c5, b882c6⟩ := b8_75.out.cells
    go_wp2_with fail
    clear b882c0 b882c1 b882c2 b882c3 b882c4 b882c5 b882c6
    refine (spec_SketchOf.ok k c0 s0 lo0 hi0 true SK.out.rd K1.out).mono ?_
    rintro e w2 ⟨rfl, hb⟩
    have bo_84 := Aside0.mk (bo_73.out.below hb)
    have ns_85 := Aside0.mk (ns_74.out.below hb)
    have b8_86 := Aside0.mk (b8_75.out.below hb)
    have fh_87 := Aside0.mk (fh_76.out.below hb)
    have fr_88 := Aside0.mk (fr_77.out.below hb)
    have l7_89 := Aside0.mk (l7_78.out.below hb)
    have l8_90 := Aside0.mk (l8_79.out.below hb)
    have rw_91 := Aside0.mk (rw_80.out.below hb)
    have S_92 := Aside0.mk (SK.out.below hb)
    have HB_93 := Aside0.mk (below_step HB_81.out hb)
    have Z_94 := Aside0.mk (hb.size)
    clear bo_73 ns_74 b8_75 fh_76 fr_77 l7_78 l8_79 rw_80 SK HB_81 hb
    obtain ⟨b894c0, b894c1, b894c2, b894c3, b894c4, b894c5, b894c6⟩ := b8_86.out.cells
    obtain ⟨bo95c0, bo95c1, bo95c2, bo95c3, bo95c4, bo95c5, bo95c6⟩ := bo_84.out.cells
    have fz97 := bo_84.out.fz
    go_wp2
    clear b894c0 b894c1 b894c2 b894c3 b894c4 b894c5 b894c6 bo95c0 bo95c1 bo95c2 bo95c3 bo95c4 bo95c5 bo95c6 fz97
    have FB := Aside0.mk (bo_84.out.fill (.int .i64 c0) (.int .i64 s0) (.int .i64 lo0) (.int .i64 hi0) (.slice A2 8 m2) (.slice A3 8 m3) (.slice (some ⟨wz.heap.size, 0, none⟩) 2 2))
    refine bodyPost_ret (results_ct rfl _ _ w.heap.size 26 #[.int .i64 c0, .int .i64 s0, .int .i64 lo0, .int .i64 hi0, .slice A2 8 m2, .slice A3 8 m3, .slice (some ⟨wz.heap.size, 0, none⟩) 2 2] (0, 0) _ rfl FB.out.1 Try.underlying26 rfl (by kernel_rfl)) rfl ?_
    exact ⟨⟨A2, 8, m2⟩, ⟨A3, 8, m3⟩, ⟨some ⟨wz.heap.size, 0, none⟩, 2, 2⟩, _, wz.heap.size + 1, rfl, S_92.out.kp FB.out.2 (by have := Z_2.out; have := Z_5.out; have := Z_8.out; have := Z_p.out; have := Z_12.out; have := Z_18.out; have := Z_26.out; have := Z_35.out; have := Z_44.out; have := Z_54.out; have := S65.out; have := S71.out; have := Z_61.out; have := Z_70.out; have := Z_82.out; have := Z_94.out; omega), ⟨by have := Z_2.out; have := Z_5.out; have := Z_8.out; have := Z_p.out; have := Z_12.out; have := Z_18.out; have := Z_26.out; have := Z_35.out; have := Z_44.out; have := Z_54.out; have := S65.out; have := S71.out; have := Z_61.out; have := Z_70.out; have := Z_82.out; have := Z_94.out; omega, by have := Z_2.out; have := Z_5.out; have := Z_8.out; have := Z_p.out; have := Z_12.out; have := Z_18.out; have := Z_26.out; have := Z_35.out; have := Z_44.out; have := Z_54.out; have := S65.out; have := S71.out; have := Z_61.out; have := Z_70.out; have := Z_82.out; have := Z_94.out; omega, by have := FB.out.2.kept.1; have := Z_2.out; have := Z_5.out; have := Z_8.out; have := Z_p.out; have := Z_12.out; have := Z_18.out; have := Z_26.out; have := Z_35.out; have := Z_44.out; have := Z_54.out; have := S65.out; have := S71.out; have := Z_61.out; have := Z_70.out; have := Z_82.out; have := Z_94.out; omega⟩, below_kp HB_93.out FB.out.2 (by omega) HB_93.out.size⟩
set_option maxHeartbeats 8000000 in
theorem spec_SketchOf.no (k : Nat) {w : World} {c : Nat} {A : Option Addr} {l : List Int} (ns : List Int) (U0 : Aside0 ((Kd.int .u8).C w A l.length l)) (L0 : Aside0 (l.length ≤ c)) (K0 : Aside0 (spec_l7Get.f k l 0 28 = some (ns, (l.length : Int), true))) (LN : Aside0 (ns.length = 28)) (c0 s0 lo0 hi0 : Int) (h r l7 l8 : List Int) (LL : Aside0 (h.length = 8 ∧ r.length = 8 ∧ l7.length = 4 ∧ l8.length = 4)) (HN : Aside0 (ns.getD 0 0 = c0 ∧ ns.getD 1 0 = s0 ∧ ns.getD 2 0 = lo0 ∧ ns.getD 3 0 = hi0 ∧ (ns.take 12).drop 4 = h ∧ (ns.take 20).drop 12 = r ∧ (ns.take 24).drop 20 = l7 ∧ ns.drop 24 = l8)) (K1 : Aside0 (spec_SketchOk.f k c0 s0 lo0 hi0 h r [l7, l8] = some false)) :
    Calls Try.prog 9 #[.slice A l.length c] w (SkOut w 0 0 0 0 [] [] [] false) := by
  have HB0 := Aside0.mk (Below.refl w.heap.size w)
  go_enter Try.func9, Try.ntmps9
  have HB_1 := Aside0.mk (below_step HB0.out (below_alloc (Below.refl _ w) (.cells #[.int .i64 0, .int .i64 0, .int .i64 0, .int .i64 0, .slice none 0 0, .slice none 0 0, .slice none 0 0] 26)))
  have Z_2 := Aside0.mk (show (w.alloc (.cells #[.int .i64 0, .int .i64 0, .int .i64 0, .int .i64 0, .slice none 0 0, .slice none 0 0, .slice none 0 0] 26)).heap.size = w.heap.size + 1 by simp)
  have bo_3 := Aside0.mk (Bx.new w 26 #[.int .i64 0, .int .i64 0, .int .i64 0, .int .i64 0, .slice none 0 0, .slice none 0 0, .slice none 0 0])
  clear HB0
  go_wp2_with fail
  refine (specGet_call k 0 28 ns (l.length : Int) true (Kd.C_below U0.out HB_1.out) L0.out K0.out).mono ?_
  rintro e w1 ⟨u0, e0, f0, rfl, hi, hm, hb⟩
  have ns_4 := Aside0.mk hi
  clear hi
  have Z_5 := Aside0.mk hm
  clear hm
  unfold Made at Z_5
  have bo_6 := Aside0.mk (bo_3.out.below hb)
  have HB_7 := Aside0.mk (below_step HB_1.out hb)
  have Z_8 := Aside0.mk (hb.size)
  clear bo_3 HB_1 hb
  obtain ⟨p, hp, hp1, P, hp2, _⟩ := rowI_put (b := f0) ns_4.out (by rw [LN.out]; omega) (fun _ hk => hk)
  obtain ⟨Au, nu, kc⟩ := u0
  simp only at hp hp2
  rw [LN.out] at hp2
  subst hp hp2
  have KC := Aside0.mk (show 28 ≤ kc from by have := (Kd.R_reads' ns_4.out).2.1; have := LN.out; omega)
  have hpl := P.lt
  have Z_p := Aside0.mk (And.intro P.lo P.hi)
  have x0 : w1.cell? ⟨p, 0, none⟩ = some (.int .i64 c0) := by have := P.at_ (i := 0) (by rw [LN.out]; omega); rw [HN.out.1] at this; exact this
  have y0 : ∀ o, (w1.drew.alloc o).cell? ⟨p, 0, none⟩ = some (.int .i64 c0) := fun o => (below_alloc (below_drew (Below.refl _ w1)) o).cell P.lt |>.trans x0
  have x1 : w1.cell? ⟨p, 1, none⟩ = some (.int .i64 s0) := by have := P.at_ (i := 1) (by rw [LN.out]; omega); rw [HN.out.2.1] at this; exact this
  have y1 : ∀ o, (w1.drew.alloc o).cell? ⟨p, 1, none⟩ = some (.int .i64 s0) := fun o => (below_alloc (below_drew (Below.refl _ w1)) o).cell P.lt |>.trans x1
  have x2 : w1.cell? ⟨p, 2, none⟩ = some (.int .i64 lo0) := by have := P.at_ (i := 2) (by rw [LN.out]; omega); rw [HN.out.2.2.1] at this; exact this
  have y2 : ∀ o, (w1.drew.alloc o).cell? ⟨p, 2, none⟩ = some (.int .i64 lo0) := fun o => (below_alloc (below_drew (Below.refl _ w1)) o).cell P.lt |>.trans x2
  have x3 : w1.cell? ⟨p, 3, none⟩ = some (.int .i64 hi0) := by have := P.at_ (i := 3) (by rw [LN.out]; omega); rw [HN.out.2.2.2.1] at this; exact this
  have y3 : ∀ o, (w1.drew.alloc o).cell? ⟨p, 3, none⟩ = some (.int .i64 hi0) := fun o => (below_alloc (below_drew (Below.refl _ w1)) o).cell P.lt |>.trans x3
  go_upto_region 5 with (fail)
  go_region
  clear x0 y0 x1 y1 x2 y2 x3 y3 P hpl
  have bo_9 := Aside0.mk (bo_6.out.below (below_alloc (Below.refl _ w1) (.cells #[.int .i64 c0, .int .i64 s0, .int .i64 lo0, .int .i64 hi0, .slice none 0 0, .slice none 0 0, .slice none 0 0] 26)))
  have ns_10 := Aside0.mk (ns_4.out.below (below_alloc (Below.refl _ w1) (.cells #[.int .i64 c0, .int .i64 s0, .int .i64 lo0, .int .i64 hi0, .slice none 0 0, .slice none 0 0, .slice none 0 0] 26)))
  have HB_11 := Aside0.mk (below_step HB_7.out (below_alloc (Below.refl _ w1) (.cells #[.int .i64 c0, .int .i64 s0, .int .i64 lo0, .int .i64 hi0, .slice none 0 0, .slice none 0 0, .slice none 0 0] 26)))
  have Z_12 := Aside0.mk (show (w1.alloc (.cells #[.int .i64 c0, .int .i64 s0, .int .i64 lo0, .int .i64 hi0, .slice none 0 0, .slice none 0 0, .slice none 0 0] 26)).heap.size = w1.heap.size + 1 by simp)
  have b8_13 := Aside0.mk (Bx.new w1 26 #[.int .i64 c0, .int .i64 s0, .int .i64 lo0, .int .i64 hi0, .slice none 0 0, .slice none 0 0, .slice none 0 0])
  clear bo_6 ns_4 HB_7
  have bo_14 := Aside0.mk (bo_9.out.below (below_drew (Below.refl _ (w1.alloc (.cells #[.int .i64 c0, .int .i64 s0, .int .i64 lo0, .int .i64 hi0, .slice none 0 0, .slice none 0 0, .slice none 0 0] 26)))))
  have ns_15 := Aside0.mk (ns_10.out.below (below_drew (Below.refl _ (w1.alloc (.cells #[.int .i64 c0, .int .i64 s0, .int .i64 lo0, .int .i64 hi0, .slice none 0 0, .slice none 0 0, .slice none 0 0] 26)))))
  have b8_16 := Aside0.mk (b8_13.out.below (below_drew (Below.refl _ (w1.alloc (.cells #[.int .i64 c0, .int .i64 s0, .int .i64 lo0, .int .i64 hi0, .slice none 0 0, .slice none 0 0, .slice none 0 0] 26)))))
  have HB_17 := Aside0.mk (below_step HB_11.out (below_drew (Below.refl _ (w1.alloc (.cells #[.int .i64 c0, .int .i64 s0, .int .i64 lo0, .int .i64 hi0, .slice none 0 0, .slice none 0 0, .slice none 0 0] 26)))))
  have Z_18 := Aside0.mk (show (w1.alloc (.cells #[.int .i64 c0, .int .i64 s0, .int .i64 lo0, .int .i64 hi0, .slice none 0 0, .slice none 0 0, .slice none 0 0] 26)).drew.heap.size = (w1.alloc (.cells #[.int .i64 c0, .int .i64 s0, .int .i64 lo0, .int .i64 hi0, .slice none 0 0, .slice none 0 0, .slice none 0 0] 26)).heap.size by simp)
  clear bo_9 ns_10 b8_13 HB_11
  obtain ⟨i0, hi0_, _, hsz, _⟩ := info_parts info3
  have hcut1 : ∀ W : World, (Instr.slice 23 (.slice (some ⟨p, 0, none⟩) 28 kc) (some (.int .i64 4)) (some (.int .i64 12)) none).run Try.prog W = .ok (.slice (some ⟨p, 4, none⟩) 8 (kc - 4)) W := by intro W; have := cut_mid (P := Try.prog) 23 3 .i64 .i64 Try.underlying23 hi0_ 1 hsz (some ⟨p, 0, none⟩) 28 kc 4 12 (by omega) (by omega) (by omega) KC.out W; rw [if_neg (by have := KC.out; omega)] at this; exact this
  have hcut2 : ∀ W : World, (Instr.slice 23 (.slice (some ⟨p, 0, none⟩) 28 kc) (some (.int .i64 12)) (some (.int .i64 20)) none).run Try.prog W = .ok (.slice (some ⟨p, 12, none⟩) 8 (kc - 12)) W := by intro W; have := cut_mid (P := Try.prog) 23 3 .i64 .i64 Try.underlying23 hi0_ 1 hsz (some ⟨p, 0, none⟩) 28 kc 12 20 (by omega) (by omega) (by omega) KC.out W; rw [if_neg (by have := KC.out; omega)] at this; exact this
  have hcut3 : ∀ W : World, (Instr.slice 23 (.slice (some ⟨p, 0, none⟩) 28 kc) (some (.int .i64 20)) (some (.int .i64 24)) none).run Try.prog W = .ok (.slice (some ⟨p, 20, none⟩) 4 (kc - 20)) W := by intro W; have := cut_mid (P := Try.prog) 23 3 .i64 .i64 Try.underlying23 hi0_ 1 hsz (some ⟨p, 0, none⟩) 28 kc 20 24 (by omega) (by omega) (by omega) KC.out W; rw [if_neg (by have := KC.out; omega)] at this; exact this
  have hcut4 : ∀ W : World, (Instr.slice 23 (.slice (some ⟨p, 0, none⟩) 28 kc) (some (.int .i64 24)) none none).run Try.prog W = .ok (.slice (some ⟨p, 24, none⟩) 4 (kc - 24)) W := by intro W; have := cut_from (P := Try.prog) 23 3 .i64 Try.underlying23 hi0_ 1 hsz (some ⟨p, 0, none⟩) 28 kc 24 (by omega) (by omega) W; rw [if_neg (by have := KC.out; omega)] at this; exact this
  clear hsz hi0_
  have CR1 := Aside0.mk (show ∀ W : World, Iv W e0 f0 ⟨some ⟨p, 0, none⟩, 28, kc⟩ ns → (Kd.int .i64).C W (some ⟨p, 4, none⟩) 8 h from fun W I => by have u := (Kd.R_reads' I).2.2; have := Kd.C_mid (lo := 4) (hi := 12) (c := kc) u (by omega) (by rw [LN.out]; omega) (by have := KC.out; rw [LN.out]; omega); rw [if_neg (by have := KC.out; omega), HN.out.2.2.2.2.1] at this; rw [show h.length = 8 from by rw [← HN.out.2.2.2.2.1, List.length_drop, List.length_take, LN.out]; omega] at this; exact this)
  have CR2 := Aside0.mk (show ∀ W : World, Iv W e0 f0 ⟨some ⟨p, 0, none⟩, 28, kc⟩ ns → (Kd.int .i64).C W (some ⟨p, 12, none⟩) 8 r from fun W I => by have u := (Kd.R_reads' I).2.2; have := Kd.C_mid (lo := 12) (hi := 20) (c := kc) u (by omega) (by rw [LN.out]; omega) (by have := KC.out; rw [LN.out]; omega); rw [if_neg (by have := KC.out; omega), HN.out.2.2.2.2.2.1] at this; rw [show r.length = 8 from by rw [← HN.out.2.2.2.2.2.1, List.length_drop, List.length_take, LN.out]; omega] at this; exact this)
  have CR3 := Aside0.mk (show ∀ W : World, Iv W e0 f0 ⟨some ⟨p, 0, none⟩, 28, kc⟩ ns → (Kd.int .i64).C W (some ⟨p, 20, none⟩) 4 l7 from fun W I => by have u := (Kd.R_reads' I).2.2; have := Kd.C_mid (lo := 20) (hi := 24) (c := kc) u (by omega) (by rw [LN.out]; omega) (by have := KC.out; rw [LN.out]; omega); rw [if_neg (by have := KC.out; omega), HN.out.2.2.2.2.2.2.1] at this; rw [show l7.length = 4 from by rw [← HN.out.2.2.2.2.2.2.1, List.length_drop, List.length_take, LN.out]; omega] at this; exact this)
  have CR4 := Aside0.mk (show ∀ W : World, Iv W e0 f0 ⟨some ⟨p, 0, none⟩, 28, kc⟩ ns → (Kd.int .i64).C W (some ⟨p, 24, none⟩) 4 l8 from fun W I => by have u := (Kd.R_reads' I).2.2; have := Kd.C_drop (m := 24) (c := kc) u (by rw [LN.out]; omega) (by have := KC.out; rw [LN.out]; omega); rw [if_neg (by have := KC.out; omega), HN.out.2.2.2.2.2.2.2] at this; rw [show l8.length = 4 from by rw [← HN.out.2.2.2.2.2.2.2, List.length_drop, LN.out]] at this; exact this)
  obtain ⟨b818c0, b818c1, b818c2, b818c3, b818c4, b818c5, b818c6⟩ := b8_16.out.cells
  have fz20 := b8_16.out.fz
  go_upto_region 8 with (first | ((with_reducible refine gate_dst (N := 39) rfl ?_); refine Kd.R_lit (Kd.int .i64) _ 3 ?hg (N := 39) ?hd (xs := ([] : List Int)) (inner := []) (ok := fun _ => True) (okp := fun _ => True) ?hr ?hp (fun _ hk => hk) trivial (Below.refl _ _) (Nat.le_refl _) (by simp) ?_; (case hd => rfl); (case hg => rfl); (case hr => first | (go_simp; done) | (go_simp; rfl)); (case hp => exact (Reps.none _ _)); intro vl wl ho hb hg_ hnew_; clear hg_ hnew_; have T1 := Aside0.mk ho; have T2 := Aside0.mk hb; clear ho hb) | ((with_reducible refine gate_builtin (b := .append) (xs := #[.tmp 39, .tmp 44]) rfl ?_); at_builtin; refine Kd.R_append_rows (Kd.int .i64) (w0 := _) _ rfl (.tmp 39) (.tmp 44) 23 3 (.int .i64 0) 8 rfl Try.underlying23 info3 rfl (by decide) (by omega) _ ([] : List Int) h _ _ _ (fun _ => True) (fun _ => False) rfl rfl T1.out (CR1.out _ (ns_15.out.below T2.out)) (fun _ _ h => h) (fun _ h => h.elim) (fun _ _ => trivial) T2.out T2.out.size (by simp) ?_; intro vl2 w2 ho hb hg_ hat_; clear hg_ hat_ T1 T2; rw [List.nil_append] at ho; obtain ⟨A2, m2, rfl⟩ := Kd.R_slice ho; rw [show h.length = 8 from LL.out.1] at ho; rw [show h.length = 8 from LL.out.1]; have fh_21 := Aside0.mk (show Iv w2 _ w2.heap.size ⟨A2, 8, m2⟩ h from Kd.R_mono (Kd.R_bound ho) (fun _ hk => hk.2.2.1)); clear ho; have bo_22 := Aside0.mk (bo_14.out.below hb); have ns_23 := Aside0.mk (ns_15.out.below hb); have b8_24 := Aside0.mk (b8_16.out.below hb); have HB_25 := Aside0.mk (below_step HB_17.out hb); have Z_26 := Aside0.mk (hb.size); clear bo_14 ns_15 b8_16 HB_17 hb; obtain ⟨b826c0, b826c1, b826c2, b826c3, b826c4, b826c5, b826c6⟩ := b8_24.out.cells; have fz28 := b8_24.out.fz))
  try clear b818c0 b818c1 b818c2 b818c3 b818c4 b818c5 b818c6 fz20 b826c0 b826c1 b826c2 b826c3 b826c4 b826c5 b826c6 fz28
  have KS_29 := Aside0.mk (Kp.set (w := w2) (a := w1.heap.size) (b := w1.heap.size + 1) (j := 4) ⟨Nat.le_refl _, Nat.lt_succ_self _⟩ (.slice A2 8 m2))
  have bo_30 := Aside0.mk (bo_22.out.kp KS_29.out (by have := Z_2.out; have := Z_5.out; have := Z_8.out; have := Z_p.out; have := Z_12.out; have := Z_18.out; have := Z_26.out; omega))
  have ns_31 := Aside0.mk (ns_23.out.kp KS_29.out (by have := Z_2.out; have := Z_5.out; have := Z_8.out; have := Z_p.out; have := Z_12.out; have := Z_18.out; have := Z_26.out; omega))
  have b8_32 := Aside0.mk (show Bx (w2.setCell ⟨w1.heap.size, 4, none⟩ (.slice A2 8 m2)) (w1.heap.size) 26 #[.int .i64 c0, .int .i64 s0, .int .i64 lo0, .int .i64 hi0, .slice A2 8 m2, .slice none 0 0, .slice none 0 0] from blk_put b8_24.out 4 _ rfl)
  have fh_33 := Aside0.mk (fh_21.out.kp KS_29.out (by have := Z_2.out; have := Z_5.out; have := Z_8.out; have := Z_p.out; have := Z_12.out; have := Z_18.out; have := Z_26.out; omega))
  have HB_34 := Aside0.mk (below_kp HB_25.out KS_29.out (by have := Z_2.out; have := Z_5.out; have := Z_8.out; have := Z_p.out; have := Z_12.out; have := Z_18.out; have := Z_26.out; omega) HB_25.out.size)
  have Z_35 := Aside0.mk (show (w2.setCell ⟨w1.heap.size, 4, none⟩ (.slice A2 8 m2)).heap.size = w2.heap.size by simp)
  clear bo_22 ns_23 b8_24 fh_21 HB_25 KS_29
  obtain ⟨b835c0, b835c1, b835c2, b835c3, b835c4, b835c5, b835c6⟩ := b8_32.out.cells
  have fz37 := b8_32.out.fz
  go_upto_region 10 with (first | ((with_reducible refine gate_dst (N := 49) rfl ?_); refine Kd.R_lit (Kd.int .i64) _ 3 ?hg (N := 49) ?hd (xs := ([] : List Int)) (inner := []) (ok := fun _ => True) (okp := fun _ => True) ?hr ?hp (fun _ hk => hk) trivial (Below.refl _ _) (Nat.le_refl _) (by simp) ?_; (case hd => rfl); (case hg => rfl); (case hr => first | (go_simp; done) | (go_simp; rfl)); (case hp => exact (Reps.none _ _)); intro vl wl ho hb hg_ hnew_; clear hg_ hnew_; have T1 := Aside0.mk ho; have T2 := Aside0.mk hb; clear ho hb) | ((with_reducible refine gate_builtin (b := .append) (xs := #[.tmp 49, .tmp 54]) rfl ?_); at_builtin; refine Kd.R_append_rows (Kd.int .i64) (w0 := _) _ rfl (.tmp 49) (.tmp 54) 23 3 (.int .i64 0) 8 rfl Try.underlying23 info3 rfl (by decide) (by omega) _ ([] : List Int) r _ _ _ (fun _ => True) (fun _ => False) rfl rfl T1.out (CR2.out _ (ns_31.out.below T2.out)) (fun _ _ h => h) (fun _ h => h.elim) (fun _ _ => trivial) T2.out T2.out.size (by simp) ?_; intro vl2 w3 ho hb hg_ hat_; clear hg_ hat_ T1 T2; rw [List.nil_append] at ho; obtain ⟨A3, m3, rfl⟩ := Kd.R_slice ho; rw [show r.length = 8 from LL.out.2.1] at ho; rw [show r.length = 8 from LL.out.2.1]; have fr_38 := Aside0.mk (show Iv w3 _ w3.heap.size ⟨A3, 8, m3⟩ r from Kd.R_mono (Kd.R_bound ho) (fun _ hk => hk.2.2.1)); clear ho; have bo_39 := Aside0.mk (bo_30.out.below hb); have ns_40 := Aside0.mk (ns_31.out.below hb); have b8_41 := Aside0.mk (b8_32.out.below hb); have fh_42 := Aside0.mk (fh_33.out.below hb); have HB_43 := Aside0.mk (below_step HB_34.out hb); have Z_44 := Aside0.mk (hb.size); clear bo_30 ns_31 b8_32 fh_33 HB_34 hb; obtain ⟨b844c0, b844c1, b844c2, b844c3, b844c4, b844c5, b844c6⟩ := b8_41.out.cells; have fz46 := b8_41.out.fz))
  try clear b835c0 b835c1 b835c2 b835c3 b835c4 b835c5 b835c6 fz37 b844c0 b844c1 b844c2 b844c3 b844c4 b844c5 b844c6 fz46
  have KS_47 := Aside0.mk (Kp.set (w := w3) (a := w1.heap.size) (b := w1.heap.size + 1) (j := 5) ⟨Nat.le_refl _, Nat.lt_succ_self _⟩ (.slice A3 8 m3))
  have bo_48 := Aside0.mk (bo_39.out.kp KS_47.out (by have := Z_2.out; have := Z_5.out; have := Z_8.out; have := Z_p.out; have := Z_12.out; have := Z_18.out; have := Z_26.out; have := Z_35.out; have := Z_44.out; omega))
  have ns_49 := Aside0.mk (ns_40.out.kp KS_47.out (by have := Z_2.out; have := Z_5.out; have := Z_8.out; have := Z_p.out; have := Z_12.out; have := Z_18.out; have := Z_26.out; have := Z_35.out; have := Z_44.out; omega))
  have b8_50 := Aside0.mk (show Bx (w3.setCell ⟨w1.heap.size, 5, none⟩ (.slice A3 8 m3)) (w1.heap.size) 26 #[.int .i64 c0, .int .i64 s0, .int .i64 lo0, .int .i64 hi0, .slice A2 8 m2, .slice A3 8 m3, .slice none 0 0] from blk_put b8_41.out 5 _ rfl)
  have fh_51 := Aside0.mk (fh_42.out.kp KS_47.out (by have := Z_2.out; have := Z_5.out; have := Z_8.out; have := Z_p.out; have := Z_12.out; have := Z_18.out; have := Z_26.out; have := Z_35.out; have := Z_44.out; omega))
  have fr_52 := Aside0.mk (fr_38.out.kp KS_47.out (by have := Z_2.out; have := Z_5.out; have := Z_8.out; have := Z_p.out; have := Z_12.out; have := Z_18.out; have := Z_26.out; have := Z_35.out; have := Z_44.out; omega))
  have HB_53 := Aside0.mk (below_kp HB_43.out KS_47.out (by have := Z_2.out; have := Z_5.out; have := Z_8.out; have := Z_p.out; have := Z_12.out; have := Z_18.out; have := Z_26.out; have := Z_35.out; have := Z_44.out; omega) HB_43.out.size)
  have Z_54 := Aside0.mk (show (w3.setCell ⟨w1.heap.size, 5, none⟩ (.slice A3 8 m3)).heap.size = w3.heap.size by simp)
  clear bo_39 ns_40 b8_41 fh_42 fr_38 HB_43 KS_47
  go_upto_region 11 with (fail)
  generalize hW9 : (w3.setCell ⟨w1.heap.size, 5, none⟩ (.slice A3 8 m3)) = w9 at *
  clear hW9
  have HQ := Aside0.mk (Below.refl w9.heap.size w9)
  have hsum : IntKind.i64.wrap 24 = 24 := by first | rfl | decide
  go_region_law (first | (refine app0_step rfl (.tmp 59) (.tmp 64) rfl 4 _ _ _ l7 rfl rfl ?cr (by omega) (by omega) ?_; (case cr => refine CR3.out _ (Iv.below ns_49.out ?_); (repeat (first | (with_reducible exact HQ.out) | (with_reducible refine below_alloc ?_ _) | (with_reducible refine below_drew ?_)))); intro A65 m65 wz ho hb; refine below_hold (w9 := w9) ?bs hb (fun HQ1 SZ1 => ?_); (case bs => (repeat (first | (with_reducible exact HQ.out) | (with_reducible refine below_alloc ?_ _) | (with_reducible refine below_drew ?_)))); (first | (refine iv_hold J71.out ?b2 hb (fun j_ => ?_); (case b2 => (repeat (first | (with_reducible exact Below.refl _ _) | (with_reducible refine below_alloc ?_ _) | (with_reducible refine below_drew ?_)))); (have K71 := Aside0.mk j_); (clear j_); (clear J71); (have J71 := K71); (clear K71)) | skip); have J65 := Aside0.mk ho; have S65 := Aside0.mk SZ1; clear SZ1; (try simp only [sz_al, sz_dr] at S65 J65); clear ho hb HQ; have HQ := Aside0.mk HQ1; clear HQ1; have fb8 := fun (o : Obj) i => Bx.fz ((b8_50.out.below HQ.out).below (below_alloc (Below.refl _ _) o)) i; obtain ⟨z0, z1, z2, z3, z4, z5, z6⟩ := (b8_50.out.below HQ.out).cellsA) | (refine app0_step rfl (.tmp 66) (.tmp 70) rfl 4 _ _ _ l8 rfl rfl ?cr (by omega) (by omega) ?_; (case cr => refine CR4.out _ (Iv.below ns_49.out ?_); (repeat (first | (with_reducible exact HQ.out) | (with_reducible refine below_alloc ?_ _) | (with_reducible refine below_drew ?_)))); intro A71 m71 wz ho hb; refine below_hold (w9 := w9) ?bs hb (fun HQ1 SZ1 => ?_); (case bs => (repeat (first | (with_reducible exact HQ.out) | (with_reducible refine below_alloc ?_ _) | (with_reducible refine below_drew ?_)))); (first | (refine iv_hold J65.out ?b2 hb (fun j_ => ?_); (case b2 => (repeat (first | (with_reducible exact Below.refl _ _) | (with_reducible refine below_alloc ?_ _) | (with_reducible refine below_drew ?_)))); (have K65 := Aside0.mk j_); (clear j_); (clear J65); (have J65 := K65); (clear K65)) | skip); have J71 := Aside0.mk ho; have S71 := Aside0.mk SZ1; clear SZ1; (try simp only [sz_al, sz_dr] at S71 J71); clear ho hb HQ; have HQ := Aside0.mk HQ1; clear HQ1; have fb8 := fun (o : Obj) i => Bx.fz ((b8_50.out.below HQ.out).below (below_alloc (Below.refl _ _) o)) i; obtain ⟨z0, z1, z2, z3, z4, z5, z6⟩ := (b8_50.out.below HQ.out).cellsA))
  all_goals
    clear fb8 z0 z1 z2 z3 z4 z5 z6
    have hb := HQ.out
    have bo_55 := Aside0.mk (bo_48.out.below hb)
    have ns_56 := Aside0.mk (ns_49.out.below hb)
    have b8_57 := Aside0.mk (b8_50.out.below hb)
    have fh_58 := Aside0.mk (fh_51.out.below hb)
    have fr_59 := Aside0.mk (fr_52.out.below hb)
    have HB_60 := Aside0.mk (below_step HB_53.out hb)
    have Z_61 := Aside0.mk (hb.size)
    clear bo_48 ns_49 b8_50 fh_51 fr_52 HB_53 hb
    have bo_62 := Aside0.mk (bo_55.out.below (below_alloc (Below.refl _ wz) (.cells #[.slice A65 4 m65, .slice A71 4 m71] 23)))
    have ns_63 := Aside0.mk (ns_56.out.below (below_alloc (Below.refl _ wz) (.cells #[.slice A65 4 m65, .slice A71 4 m71] 23)))
    have b8_64 := Aside0.mk (b8_57.out.below (below_alloc (Below.refl _ wz) (.cells #[.slice A65 4 m65, .slice A71 4 m71] 23)))
    have fh_65 := Aside0.mk (fh_58.out.below (below_alloc (Below.refl _ wz) (.cells #[.slice A65 4 m65, .slice A71 4 m71] 23)))
    have fr_66 := Aside0.mk (fr_59.out.below (below_alloc (Below.refl _ wz) (.cells #[.slice A65 4 m65, .slice A71 4 m71] 23)))
    have l7_67 := Aside0.mk (J65.out.below (below_alloc (Below.refl _ wz) (.cells #[.slice A65 4 m65, .slice A71 4 m71] 23)))
    have l8_68 := Aside0.mk (J71.out.below (below_alloc (Below.refl _ wz) (.cells #[.slice A65 4 m65, .slice A71 4 m71] 23)))
    have HB_69 := Aside0.mk (below_step HB_60.out (below_alloc (Below.refl _ wz) (.cells #[.slice A65 4 m65, .slice A71 4 m71] 23)))
    have Z_70 := Aside0.mk (show (wz.alloc (.cells #[.slice A65 4 m65, .slice A71 4 m71] 23)).heap.size = wz.heap.size + 1 by simp)
    have rw_71 := Aside0.mk (Bx.new wz 23 #[.slice A65 4 m65, .slice A71 4 m71])
    clear bo_55 ns_56 b8_57 fh_58 fr_59 J65 J71 HB_60
    have KS_72 := Aside0.mk (Kp.set (w := (wz.alloc (.cells #[.slice A65 4 m65, .slice A71 4 m71] 23))) (a := w1.heap.size) (b := w1.heap.size + 1) (j := 6) ⟨Nat.le_refl _, Nat.lt_succ_self _⟩ (.slice (some ⟨wz.heap.size, 0, none⟩) 2 2))
    have bo_73 := Aside0.mk (bo_62.out.kp KS_72.out (by have := Z_2.out; have := Z_5.out; have := Z_8.out; have := Z_p.out; have := Z_12.out; have := Z_18.out; have := Z_26.out; have := Z_35.out; have := Z_44.out; have := Z_54.out; have := S65.out; have := S71.out; have := Z_61.out; have := Z_70.out; omega))
    have ns_74 := Aside0.mk (ns_63.out.kp KS_72.out (by have := Z_2.out; have := Z_5.out; have := Z_8.out; have := Z_p.out; have := Z_12.out; have := Z_18.out; have := Z_26.out; have := Z_35.out; have := Z_44.out; have := Z_54.out; have := S65.out; have := S71.out; have := Z_61.out; have := Z_70.out; omega))
    have b8_75 := Aside0.mk (show Bx ((wz.alloc (.cells #[.slice A65 4 m65, .slice A71 4 m71] 23)).setCell ⟨w1.heap.size, 6, none⟩ (.slice (some ⟨wz.heap.size, 0, none⟩) 2 2)) (w1.heap.size) 26 #[.int .i64 c0, .int .i64 s0, .int .i64 lo0, .int .i64 hi0, .slice A2 8 m2, .slice A3 8 m3, .slice (some ⟨wz.heap.size, 0, none⟩) 2 2] from blk_put b8_64.out 6 _ rfl)
    have fh_76 := Aside0.mk (fh_65.out.kp KS_72.out (by have := Z_2.out; have := Z_5.out; have := Z_8.out; have := Z_p.out; have := Z_12.out; have := Z_18.out; have := Z_26.out; have := Z_35.out; have := Z_44.out; have := Z_54.out; have := S65.out; have := S71.out; have := Z_61.out; have := Z_70.out; omega))
    have fr_77 := Aside0.mk (fr_66.out.kp KS_72.out (by have := Z_2.out; have := Z_5.out; have := Z_8.out; have := Z_p.out; have := Z_12.out; have := Z_18.out; have := Z_26.out; have := Z_35.out; have := Z_44.out; have := Z_54.out; have := S65.out; have := S71.out; have := Z_61.out; have := Z_70.out; omega))
    have l7_78 := Aside0.mk (l7_67.out.kp KS_72.out (by have := Z_2.out; have := Z_5.out; have := Z_8.out; have := Z_p.out; have := Z_12.out; have := Z_18.out; have := Z_26.out; have := Z_35.out; have := Z_44.out; have := Z_54.out; have := S65.out; have := S71.out; have := Z_61.out; have := Z_70.out; omega))
    have l8_79 := Aside0.mk (l8_68.out.kp KS_72.out (by have := Z_2.out; have := Z_5.out; have := Z_8.out; have := Z_p.out; have := Z_12.out; have := Z_18.out; have := Z_26.out; have := Z_35.out; have := Z_44.out; have := Z_54.out; have := S65.out; have := S71.out; have := Z_61.out; have := Z_70.out; omega))
    have rw_80 := Aside0.mk (rw_71.out.kp KS_72.out (by have := Z_2.out; have := Z_5.out; have := Z_8.out; have := Z_p.out; have := Z_12.out; have := Z_18.out; have := Z_26.out; have := Z_35.out; have := Z_44.out; have := Z_54.out; have := S65.out; have := S71.out; have := Z_61.out; have := Z_70.out; omega))
    have HB_81 := Aside0.mk (below_kp HB_69.out KS_72.out (by have := Z_2.out; have := Z_5.out; have := Z_8.out; have := Z_p.out; have := Z_12.out; have := Z_18.out; have := Z_26.out; have := Z_35.out; have := Z_44.out; have := Z_54.out; have := S65.out; have := S71.out; have := Z_61.out; have := Z_70.out; omega) HB_69.out.size)
    have Z_82 := Aside0.mk (show ((wz.alloc (.cells #[.slice A65 4 m65, .slice A71 4 m71] 23)).setCell ⟨w1.heap.size, 6, none⟩ (.slice (some ⟨wz.heap.size, 0, none⟩) 2 2)).heap.size = (wz.alloc (.cells #[.slice A65 4 m65, .slice A71 4 m71] 23)).heap.size by simp)
    clear bo_62 ns_63 b8_64 fh_65 fr_66 l7_67 l8_68 rw_71 HB_69 KS_72
    have SK := Aside0.mk (so_sk2 fh_76.out fr_77.out l7_78.out l8_79.out rw_80.out (by have := Z_2.out; have := Z_5.out; have := Z_8.out; have := Z_p.out; have := Z_12.out; have := Z_18.out; have := Z_26.out; have := Z_35.out; have := Z_44.out; have := Z_54.out; have := S65.out; have := S71.out; have := Z_61.out; have := Z_70.out; have := Z_82.out; omega) (by have := LL.out; exact this))
    obtain ⟨b882c0, b882c1, b882c2, b882c3, b882c4, b882c5, b882c6⟩ := b8_75.out.cells
    go_wp2_with fail
    clear b882c0 b882c1 b882c2 b882c3 b882c4 b882c5 b882c6
    refine (spec_SketchOf.ok k c0 s0 lo0 hi0 false SK.out.rd K1.out).mono ?_
    rintro e w2 ⟨rfl, hb⟩
    have bo_84 := Aside0.mk (bo_73.out.below hb)
    have ns_85 := Aside0.mk (ns_74.out.below hb)
    have b8_86 := Aside0.mk (b8_75.out.below hb)
    have fh_87 := Aside0.mk (fh_76.out.below hb)
    have fr_88 := Aside0.mk (fr_77.out.below hb)
    have l7_89 := Aside0.mk (l7_78.out.below hb)
    have l8_90 := Aside0.mk (l8_79.out.below hb)
    have rw_91 := Aside0.mk (rw_80.out.below hb)
    have S_92 := Aside0.mk (SK.out.below hb)
    have HB_93 := Aside0.mk (below_step HB_81.out hb)
    have Z_94 := Aside0.mk (hb.size)
    clear bo_73 ns_74 b8_75 fh_76 fr_77 l7_78 l8_79 rw_80 SK HB_81 hb
    obtain ⟨bo94c0, bo94c1, bo94c2, bo94c3, bo94c4, bo94c5, bo94c6⟩ := bo_84.out.cells
    have fz96 := bo_84.out.fz
    go_wp2
    clear bo94c0 bo94c1 bo94c2 bo94c3 bo94c4 bo94c5 bo94c6 fz96
    have FB := Aside0.mk (bo_84.out.fill (.int .i64 0) (.int .i64 0) (.int .i64 0) (.int .i64 0) (.slice none 0 0) (.slice none 0 0) (.slice none 0 0))
    refine bodyPost_ret (results_ct rfl _ _ w.heap.size 26 #[.int .i64 0, .int .i64 0, .int .i64 0, .int .i64 0, .slice none 0 0, .slice none 0 0, .slice none 0 0] (0, 0) _ rfl FB.out.1 Try.underlying26 rfl (by kernel_rfl)) rfl ?_
    exact ⟨⟨none, 0, 0⟩, ⟨none, 0, 0⟩, ⟨none, 0, 0⟩, _, _, rfl, Sk.nil _ w.heap.size w.heap.size, ⟨Nat.le_refl _, Nat.le_refl _, Nat.le_trans HB_93.out.size FB.out.2.kept.1⟩, below_kp HB_93.out FB.out.2 (by omega) HB_93.out.size⟩
set_option maxHeartbeats 8000000 in
theorem spec_SketchOf.bad (k : Nat) {w : World} {c : Nat} {A : Option Addr} {l : List Int} (ns : List Int) (nx : Int) (U0 : Aside0 ((Kd.int .u8).C w A l.length l)) (L0 : Aside0 (l.length ≤ c)) (K0 : Aside0 (spec_l7Get.f k l 0 28 = some (ns, nx, false))) :
    Calls Try.prog 9 #[.slice A l.length c] w (SkOut w 0 0 0 0 [] [] [] false) := by
  have HB0 := Aside0.mk (Below.refl w.heap.size w)
  go_enter Try.func9, Try.ntmps9
  have HB_1 := Aside0.mk (below_step HB0.out (below_alloc (Below.refl _ w) (.cells #[.int .i64 0, .int .i64 0, .int .i64 0, .int .i64 0, .slice none 0 0, .slice none 0 0, .slice none 0 0] 26)))
  have Z_2 := Aside0.mk (show (w.alloc (.cells #[.int .i64 0, .int .i64 0, .int .i64 0, .int .i64 0, .slice none 0 0, .slice none 0 0, .slice none 0 0] 26)).heap.size = w.heap.size + 1 by simp)
  have bo_3 := Aside0.mk (Bx.new w 26 #[.int .i64 0, .int .i64 0, .int .i64 0, .int .i64 0, .slice none 0 0, .slice none 0 0, .slice none 0 0])
  clear HB0
  go_wp2_with fail
  refine (specGet_call k 0 28 ns nx false (Kd.C_below U0.out HB_1.out) L0.out K0.out).mono ?_
  rintro e w1 ⟨u0, e0, f0, rfl, hi, hm, hb⟩
  have ns_4 := Aside0.mk hi
  clear hi
  have Z_5 := Aside0.mk hm
  clear hm
  unfold Made at Z_5
  have bo_6 := Aside0.mk (bo_3.out.below hb)
  have HB_7 := Aside0.mk (below_step HB_1.out hb)
  have Z_8 := Aside0.mk (hb.size)
  clear bo_3 HB_1 hb
  obtain ⟨bo8c0, bo8c1, bo8c2, bo8c3, bo8c4, bo8c5, bo8c6⟩ := bo_6.out.cells
  have fz10 := bo_6.out.fz
  go_wp2
  clear bo8c0 bo8c1 bo8c2 bo8c3 bo8c4 bo8c5 bo8c6 fz10
  have FB := Aside0.mk (bo_6.out.fill (.int .i64 0) (.int .i64 0) (.int .i64 0) (.int .i64 0) (.slice none 0 0) (.slice none 0 0) (.slice none 0 0))
  refine bodyPost_ret (results_ct rfl _ _ w.heap.size 26 #[.int .i64 0, .int .i64 0, .int .i64 0, .int .i64 0, .slice none 0 0, .slice none 0 0, .slice none 0 0] (0, 0) _ rfl FB.out.1 Try.underlying26 rfl (by kernel_rfl)) rfl ?_
  exact ⟨⟨none, 0, 0⟩, ⟨none, 0, 0⟩, ⟨none, 0, 0⟩, _, _, rfl, Sk.nil _ w.heap.size w.heap.size, ⟨Nat.le_refl _, Nat.le_refl _, Nat.le_trans HB_7.out.size FB.out.2.kept.1⟩, below_kp HB_7.out FB.out.2 (by omega) HB_7.out.size⟩
set_option maxHeartbeats 8000000 in
theorem spec_SketchOf.far (k : Nat) {w : World} {c : Nat} {A : Option Addr} {l : List Int} (ns : List Int) (nx : Int) (U0 : Aside0 ((Kd.int .u8).C w A l.length l)) (L0 : Aside0 (l.length ≤ c)) (K0 : Aside0 (spec_l7Get.f k l 0 28 = some (ns, nx, true))) (HT : Aside0 (¬ nx = (l.length : Int))) :
    Calls Try.prog 9 #[.slice A l.length c] w (SkOut w 0 0 0 0 [] [] [] false) := by
  have HB0 := Aside0.mk (Below.refl w.heap.size w)
  go_enter Try.func9, Try.ntmps9
  have HB_1 := Aside0.mk (below_step HB0.out (below_alloc (Below.refl _ w) (.cells #[.int .i64 0, .int .i64 0, .int .i64 0, .int .i64 0, .slice none 0 0, .slice none 0 0, .slice none 0 0] 26)))
  have Z_2 := Aside0.mk (show (w.alloc (.cells #[.int .i64 0, .int .i64 0, .int .i64 0, .int .i64 0, .slice none 0 0, .slice none 0 0, .slice none 0 0] 26)).heap.size = w.heap.size + 1 by simp)
  have bo_3 := Aside0.mk (Bx.new w 26 #[.int .i64 0, .int .i64 0, .int .i64 0, .int .i64 0, .slice none 0 0, .slice none 0 0, .slice none 0 0])
  clear HB0
  go_wp2_with fail
  refine (specGet_call k 0 28 ns nx true (Kd.C_below U0.out HB_1.out) L0.out K0.out).mono ?_
  rintro e w1 ⟨u0, e0, f0, rfl, hi, hm, hb⟩
  have ns_4 := Aside0.mk hi
  clear hi
  have Z_5 := Aside0.mk hm
  clear hm
  unfold Made at Z_5
  have bo_6 := Aside0.mk (bo_3.out.below hb)
  have HB_7 := Aside0.mk (below_step HB_1.out hb)
  have Z_8 := Aside0.mk (hb.size)
  clear bo_3 HB_1 hb
  obtain ⟨bo8c0, bo8c1, bo8c2, bo8c3, bo8c4, bo8c5, bo8c6⟩ := bo_6.out.cells
  have fz10 := bo_6.out.fz
  have ht := HT.out
  go_wp2
  clear bo8c0 bo8c1 bo8c2 bo8c3 bo8c4 bo8c5 bo8c6 fz10
  have FB := Aside0.mk (bo_6.out.fill (.int .i64 0) (.int .i64 0) (.int .i64 0) (.int .i64 0) (.slice none 0 0) (.slice none 0 0) (.slice none 0 0))
  refine bodyPost_ret (results_ct rfl _ _ w.heap.size 26 #[.int .i64 0, .int .i64 0, .int .i64 0, .int .i64 0, .slice none 0 0, .slice none 0 0, .slice none 0 0] (0, 0) _ rfl FB.out.1 Try.underlying26 rfl (by kernel_rfl)) rfl ?_
  exact ⟨⟨none, 0, 0⟩, ⟨none, 0, 0⟩, ⟨none, 0, 0⟩, _, _, rfl, Sk.nil _ w.heap.size w.heap.size, ⟨Nat.le_refl _, Nat.le_refl _, Nat.le_trans HB_7.out.size FB.out.2.kept.1⟩, below_kp HB_7.out FB.out.2 (by omega) HB_7.out.size⟩
end Go.Proofs.Ytfknjoebomicnaa.PFnExactSketchOf
namespace Go.Proofs.Ytfknjoebomicnaa.HFnExactSketchOf
open Go.RowKit Go.Proofs.Ytfknjoebomicnaa.PFnExactSketchOf Go.Proofs.YtfknjoebomicnaaW.PrintWords Go.Proofs.YtfknjoebomicnaaW.PrintLast Go.Proofs.YtfknjoebomicnaaW.PrintMore Go.Proofs.Ytfknjoebomicnaa.Aid
set_option linter.unusedVariables false
set_option linter.unusedSimpArgs false

def marksI (k : Int) (n : Nat) : List Int := (List.range n).map fun j : Nat => k + (j : Int)
theorem marksI_length (k : Int) (n : Nat) : (marksI k n).length = n := by simp [marksI]
theorem marksI_get (k : Int) (n i : Nat) (h : i < (marksI k n).length) : (marksI k n)[i] = k + (i : Int) := by simp [marksI]
/-- What a mark writes into rows, one behind the other. -/
def marksII : Int → List (List Int) → List (List Int)
  | _, [] => []
  | k, l :: ls => marksI k l.length :: marksII (k + (l.length : Int)) ls
def lensII : List (List Int) → Nat
  | [] => 0
  | l :: ls => l.length + lensII ls
theorem marksII_length (ls : List (List Int)) : ∀ k, (marksII k ls).length = ls.length := by
  induction ls with
  | nil => intro k; rfl
  | cons l ls ih => intro k; simp [marksII, ih]
theorem lensII_take (ls : List (List Int)) : ∀ i, (h : i < ls.length) → lensII (ls.take (i + 1)) = lensII (ls.take i) + ls[i].length := by
  induction ls with
  | nil => intro i h; simp at h
  | cons l ls ih =>
    intro i h
    cases i with
    | zero => simp [lensII]
    | succ i =>
      have := ih i (by simpa using h)
      simp only [List.take_succ_cons, lensII, List.getElem_cons_succ]
      omega
theorem lensII_le (ls : List (List Int)) : ∀ i, lensII (ls.take i) ≤ lensII ls := by
  induction ls with
  | nil => intro i; simp [lensII]
  | cons l ls ih =>
    intro i
    cases i with
    | zero => simp [lensII]
    | succ i => have := ih i; simp only [List.take_succ_cons, lensII]; omega
theorem marksII_get (ls : List (List Int)) : ∀ (k : Int) (i : Nat) (h : i < ls.length), (marksII k ls)[i]'(by rw [marksII_length]; exact h) = marksI (k + (lensII (ls.take i) : Nat)) ls[i].length := by
  induction ls with
  | nil => intro k i h; simp at h
  | cons l ls ih =>
    intro k i h
    cases i with
    | zero => simp [marksII, lensII]
    | succ i =>
      have := ih (k + (l.length : Int)) i (by simpa using h)
      simp only [marksII, List.getElem_cons_succ, this, List.take_succ_cons, lensII]
      congr 1
      omega
/-- Row by row: those ahead of i are marked. -/
theorem marksII_set (ls : List (List Int)) (k : Int) (i : Nat) (h : i < ls.length) : ((marksII k ls).take i ++ ls.drop i).set i (marksI (k + (lensII (ls.take i) : Nat)) ls[i].length) = (marksII k ls).take (i + 1) ++ ls.drop (i + 1) := by
  have hl : ((marksII k ls).take i).length = i := by rw [List.length_take, marksII_length]; omega
  rw [List.set_append_right _ _ (by omega), hl, Nat.sub_self, List.drop_eq_getElem_cons h, List.set_cons_zero, List.take_succ_eq_append_getElem (by rw [marksII_length]; exact h), marksII_get ls k i h, List.append_assoc]
  rfl
theorem markI_call (k : Nat) {w : World} {a b : Nat} {v : Value} {l : List Int} {ok : Nat → Prop} (k0 : Int) (u : Kd.R (Kd.int .i64) 3 w a ok v l) (hok : ∀ k, ok k → k < b) (ha : a ≤ w.heap.size) (he : laws_markIntS.f k l k0 = some (k0 + (l.length : Int), marksI k0 l.length)) :
    Calls Try.prog 45 #[v, .int .i64 k0] w fun e w' => e = .returned (.int .i64 (k0 + (l.length : Int))) ∧ Kd.R (Kd.int .i64) 3 w' a ok v (marksI k0 l.length) ∧ Kp w w' a b ∧ Kept w w' (fun k => some k = v.ownBlock) := by
  -- the world at the row's begin: one with a blocks
  obtain ⟨w0, hw0, hB⟩ : ∃ w0 : World, w0.heap.size = a ∧ Below a w0 w := by
    refine ⟨{ w with heap := w.heap.extract 0 a }, by simp; omega, ⟨rfl, rfl, rfl, by simp; omega, fun i hi => ?_⟩⟩
    simp [Array.getElem?_extract]
    omega
  subst hw0
  have u1 : Kd.R (Kd.int .i64) 3 w w0.heap.size (fun k => some k = v.ownBlock) v l := Kd.R_tight rfl u
  refine (laws_markIntS.calls k (fun k => some k = v.ownBlock) v l k0 _ _ w0 w hB u1 he).mono ?_
  rintro e w' ⟨rfl, hr, hb, hk⟩
  refine ⟨rfl, Kd.R_reok rfl hr (fun k hk => u.1 k hk), ⟨hb.os.trans hB.os.symm, hb.tape.trans hB.tape.symm, hb.output.trans hB.output.symm, hk.mono (fun i hi => ⟨Kd.R_base u i hi.symm, hok i (u.1 i hi.symm)⟩)⟩, hk⟩
set_option maxHeartbeats 4000000 in
theorem markII_call (k : Nat) (hm : Aside0 (∀ (l : List Int) (k0 : Int), l.length ≤ 1048576 → 0 ≤ k0 → k0 ≤ 1073741824 → laws_markIntS.f k l k0 = some (k0 + (l.length : Int), marksI k0 l.length))) {w : World} {a b : Nat} {z : Sl} {R : List (List Int)} {ok : Nat → Prop} (k0 : Int) (u : Kd.S (Kd.slice 3 (Kd.int .i64)) 23 w a ok (.slice z.A z.n z.c) R) (hok : ∀ k, ok k → k < b) (ha : a ≤ w.heap.size)
    (hk0 : 0 ≤ k0) (hkb : k0 + (lensII R : Nat) ≤ 1073741824) (hR : R.length ≤ 1048576) (hl : ∀ l ∈ R, l.length ≤ 1048576) :
    Calls Try.prog 46 #[.slice z.A z.n z.c, .int .i64 k0] w fun e w' => e = .returned (.int .i64 (k0 + (lensII R : Nat))) ∧ Kd.S (Kd.slice 3 (Kd.int .i64)) 23 w' a ok (.slice z.A z.n z.c) (marksII k0 R) ∧ Kp w w' a b ∧ Kept w w' ok := by
  have hzn : z.n = R.length := (Kd.S_reads' u).1
  have HZ := Aside0.mk hzn
  have HL := Aside0.mk hl
  have HOK := Aside0.mk hok
  have U := Aside0.mk u
  have HR := Aside0.mk hR
  have HB := Aside0.mk hkb
  have HA := Aside0.mk ha
  have hzm : z.n ≤ 1048576 := by omega
  clear hzn hl hok u hR hkb ha
  go_enter Try.func46, Try.ntmps46
  go_wp2
  go_loopg [1, 5] z.n (fun gg s1 s5 wr => ∃ i : Nat, i ≤ z.n ∧ z.n - i ≤ gg ∧ s5 = .int .i64 i ∧ s1 = .int .i64 (k0 + (lensII (R.take i) : Nat)) ∧ Aside0 (Kd.S (Kd.slice 3 (Kd.int .i64)) 23 wr a ok (.slice z.A z.n z.c) ((marksII k0 R).take i ++ R.drop i)) ∧ Aside0 (Kp w wr a b) ∧ Aside0 (Kept w wr ok))
  case atStart => exact ⟨0, Nat.zero_le _, by omega, rfl, by simp [lensII], ⟨by simpa using U.out⟩, ⟨Kp.refl _ _ _⟩, ⟨Kept.refl _ _⟩⟩
  case round =>
    obtain ⟨i, hi, hg, rfl, rfl, S, KP, KT⟩ := hrel
    have lk := lensII_le R i
    have lk' : k0 + (lensII (R.take i) : Nat) ≤ 1073741824 := by have := HB.out; omega
    by_cases hlt : i < z.n
    · have hltz : (i : Int) < (z.n : Int) := by omega
      have hiR : i < R.length := by have := HZ.out; omega
      have hcl : ((marksII k0 R).take i ++ R.drop i).length = R.length := by rw [List.length_append, List.length_take, List.length_drop, marksII_length]; omega
      obtain ⟨g, cap, hv, hbg, hgs, _⟩ := Kd.S_form S.out (by rw [hcl]; omega)
      injection hv with hA hn hc
      have S2 := S.out
      rw [hA] at S2
      obtain ⟨oki, c, hcl2, hM, hcell, hoki, hH⟩ := Kd.S_lend S2 ([] : List Int) (i : Int) (by omega) (by omega)
      obtain ⟨v, rfl, hRv⟩ := hM
      have hget : ((marksII k0 R).take i ++ R.drop i).getD (i : Int).toNat [] = R[i] := by
        rw [Int.toNat_natCast, List.getD_eq_getElem?_getD, List.getElem?_append_right (by rw [List.length_take, marksII_length]; omega), List.length_take, marksII_length, Nat.min_eq_left (by omega), Nat.sub_self, List.drop_eq_getElem_cons hiR]
        rfl
      rw [hget] at hRv
      have hc0 := hcell 0 v rfl
      simp only [Int.toNat_natCast, Kd.slice, Nat.mul_one, Nat.add_zero] at hc0
      obtain ⟨A1, c1, rfl⟩ := Kd.R_slice hRv
      have hl1 : R[i].length ≤ 1048576 := HL.out _ (List.getElem_mem hiR)
      have hcall := markI_call (b := b) k (k0 + (lensII (R.take i) : Nat)) hRv (fun q hq => HOK.out q (hoki q hq).1) (Nat.le_trans HA.out KT.out.1) (hm.out _ _ hl1 (by omega) lk')
      have hts := lensII_take R i hiR
      have hset := marksII_set R k0 i hiR
      have HH := Aside0.mk hH
      have HRV := Aside0.mk hRv
      have HOI := Aside0.mk hoki
      have HTS := Aside0.mk hts
      have HSET := Aside0.mk hset
      have HAA := Aside0.mk hA
      clear hcell hcl2 hget hH hRv hoki hts hset S S2 hn hc hA hcl
      have hAz : z.A = some ⟨g, 0, none⟩ := HAA.out
      generalize hzA : z.A = zA at *
      subst hAz
      go_wp2_with (go_at_call 45; refine hcall.mono ?_; rintro e w' ⟨rfl, hr2, hkp, hkt⟩; have HR2 := Aside0.mk hr2; have HKP := Aside0.mk hkp; have HKT := Aside0.mk hkt; clear hr2 hkp hkt)
      go_roundg (z.n - (i + 1))
      case measure => omega
      case rel =>
        refine ⟨i + 1, by omega, by omega, by go_num, by rw [HTS.out]; congr 1; omega, ⟨?_⟩, ⟨KP.out.trans HKP.out⟩, ⟨?_⟩⟩
        · have h1 := Kd.H_kept HH.out HKT.out (fun q hq hn hs => hn (HRV.out.1 q hs.symm))
          have h2 := Kd.H_back h1 (x' := marksI (k0 + (lensII (R.take i) : Nat)) R[i].length) (okp := oki) ⟨_, rfl, HR2.out⟩ (fun _ hq => hq)
          rw [Int.toNat_natCast, HSET.out] at h2
          exact h2
        · exact KT.out.then_ HKT.out (fun q hq => .inl (HOI.out q (HRV.out.1 q hq.symm)).1)
    · have hltz : ¬ (i : Int) < (z.n : Int) := by omega
      have hiz : i = R.length := by have := HZ.out; omega
      have S2 := S.out
      rw [hiz, List.drop_length, List.append_nil, List.take_of_length_le (by rw [marksII_length]; exact Nat.le_refl _)] at S2
      have ht : R.take i = R := by rw [hiz, List.take_length]
      rw [ht]
      have SS := Aside0.mk S2
      clear S2 ht hiz
      go_wp2
      go_ret
      exact ⟨rfl, SS.out, KP.out, KT.out⟩
theorem row_kept {w w' : World} {a e : Nat} {ok S : Nat → Prop} {v : Value} {l : List Int} (u : Kd.R (Kd.int .i64) e w a ok v l) (hk : Kept w w' S) (hne : ∀ k, v.ownBlock = some k → ¬ S k) : Kd.R (Kd.int .i64) e w' a ok v l :=
  Kd.R_reok rfl (Kd.R_kept (Kd.R_tight rfl u) hk (fun k hk' => hne k hk'.symm)) (fun k hk' => u.1 k hk')
def MkI (k : Nat) : Prop := ∀ (l : List Int) (k0 : Int), l.length ≤ 1048576 → 0 ≤ k0 → k0 ≤ 1073741824 → laws_markIntS.f k l k0 = some (k0 + (l.length : Int), marksI k0 l.length)
set_option maxHeartbeats 4000000 in
theorem mark_call (k : Nat) (hm : Aside0 (MkI k)) {w : World} {a b : Nat} {x y z : Sl} {h r : List Int} {R : List (List Int)} (c s mn mx k0 : Int) (u : Sk w a b x y z h r R) (ha : a ≤ w.heap.size) (hb : b ≤ w.heap.size)
    (hk0 : 0 ≤ k0) (hkb : k0 + (h.length : Int) + (r.length : Int) + (lensII R : Nat) ≤ 1073741824) (hh : h.length ≤ 1048576) (hr : r.length ≤ 1048576) (hR : R.length ≤ 1048576) (hl : ∀ l ∈ R, l.length ≤ 1048576) :
    Calls Try.prog 15 #[.agg #[.int .i64 c, .int .i64 s, .int .i64 mn, .int .i64 mx, .slice x.A x.n x.c, .slice y.A y.n y.c, .slice z.A z.n z.c], .int .i64 k0] w fun e w' => e = .returned (.int .i64 (k0 + (h.length : Int) + (r.length : Int) + (lensII R : Nat))) ∧
      Sk w' a b x y z (marksI k0 h.length) (marksI (k0 + (h.length : Int)) r.length) (marksII (k0 + (h.length : Int) + (r.length : Int)) R) ∧ Kp w w' a b := by
  obtain ⟨ux, uy, uz⟩ := u
  have hB := Bx.new w 26 #[.int .i64 c, .int .i64 s, .int .i64 mn, .int .i64 mx, .slice x.A x.n x.c, .slice y.A y.n y.c, .slice z.A z.n z.c]
  have hb0 : Below w.heap.size w (w.alloc (.cells #[.int .i64 c, .int .i64 s, .int .i64 mn, .int .i64 mx, .slice x.A x.n x.c, .slice y.A y.n y.c, .slice z.A z.n z.c] 26)) := below_alloc (Below.refl _ _) _
  have call1 := fun W (hW : Below w.heap.size w W) => markI_call (b := b) k k0 (Kd.R_below ux hW) (fun _ hq => hq) (Nat.le_trans ha hW.size) (hm.out h k0 hh hk0 (by omega))
  have call2 := fun W (uy : Kd.R (Kd.int .i64) 3 W a (fun k => k < b ∧ some k ≠ (Value.slice x.A x.n x.c).ownBlock) (.slice y.A y.n y.c) r) (ha : a ≤ W.heap.size) => markI_call (b := b) k (k0 + (h.length : Int)) uy (fun _ hq => hq.1) ha (hm.out r (k0 + (h.length : Int)) hr (by omega) (by omega))
  have call3 := fun W (uz : Kd.S (Kd.slice 3 (Kd.int .i64)) 23 W a (fun k => k < b ∧ some k ≠ (Value.slice x.A x.n x.c).ownBlock ∧ some k ≠ (Value.slice y.A y.n y.c).ownBlock) (.slice z.A z.n z.c) R) (ha : a ≤ W.heap.size) => markII_call (b := b) k ⟨fun l k0 h1 h2 h3 => hm.out l k0 h1 h2 h3⟩ (k0 + (h.length : Int) + (r.length : Int)) uz (fun _ hq => hq.1) ha (by omega) hkb hR hl
  have UX := Aside0.mk ux
  have UY := Aside0.mk uy
  have UZ := Aside0.mk uz
  have HBX := Aside0.mk hB
  have HB0 := Aside0.mk hb0
  have HBB := Aside0.mk hb
  have HA := Aside0.mk ha
  have K1 := Aside0.mk call1
  have K2 := Aside0.mk call2
  have K3 := Aside0.mk call3
  clear ux uy uz hB hb0 hb ha call1 call2 call3 hkb hh hr hR hl hk0
  go_enter Try.func15, Try.ntmps15
  go_wp2_with fail
  refine (K1.out _ HB0.out).mono ?_
  rintro e w1 ⟨rfl, hr1, hkp1, hkt1⟩
  have bx1 := Bx.kp HBX.out hkp1 (.inr HBB.out)
  have y1 := row_kept (Kd.R_below UY.out HB0.out) hkt1 (fun q hq hs => (UY.out.1 q hq).2 hs)
  have z1 := Kd.S_kept (Kd.S_below UZ.out HB0.out) hkt1 (fun q hq hs => hq.2.1 hs)
  have cells := bx1.cells
  obtain ⟨_, _, _, _, _, c5, _⟩ := cells
  have X1 := Aside0.mk hr1
  have KP1 := Aside0.mk hkp1
  have BX1 := Aside0.mk bx1
  have Y1 := Aside0.mk y1
  have Z1 := Aside0.mk z1
  clear hr1 hkp1 hkt1 bx1 y1 z1
  go_wp2_with fail
  clear c5
  refine (K2.out _ Y1.out (Nat.le_trans HA.out (Nat.le_trans HB0.out.size KP1.out.kept.1))).mono ?_
  rintro e w2 ⟨rfl, hr2, hkp2, hkt2⟩
  have bx2 := Bx.kp BX1.out hkp2 (.inr HBB.out)
  have x2 := row_kept X1.out hkt2 (fun q hq hs => (UY.out.1 q hs.symm).2 hq.symm)
  have z2 := Kd.S_kept Z1.out hkt2 (fun q hq hs => hq.2.2 hs)
  have cells := bx2.cells
  obtain ⟨_, _, _, _, _, _, c6⟩ := cells
  have X2 := Aside0.mk x2
  have KP2 := Aside0.mk (KP1.out.trans hkp2)
  have BX2 := Aside0.mk bx2
  have Y2 := Aside0.mk hr2
  have Z2 := Aside0.mk z2
  clear hr2 hkp2 hkt2 bx2 x2 z2
  go_wp2_with fail
  clear c6
  refine (K3.out _ Z2.out (Nat.le_trans HA.out (Nat.le_trans HB0.out.size KP2.out.kept.1))).mono ?_
  rintro e w3 ⟨rfl, hr3, hkp3, hkt3⟩
  have x3 := row_kept X2.out hkt3 (fun q hq hs => hs.2.1 hq.symm)
  have y3 := row_kept Y2.out hkt3 (fun q hq hs => hs.2.2 hq.symm)
  have S3 := Aside0.mk (show Sk w3 a b x y z _ _ _ from ⟨x3, y3, hr3⟩)
  have KP3 := Aside0.mk (((Kp.of HB0.out).trans KP2.out).trans hkp3)
  clear hr3 hkp3 hkt3 x3 y3
  go_wp2
  go_ret
  exact ⟨rfl, S3.out, KP3.out⟩
theorem mark_callM (k : Nat) (hm : Aside0 (MkI k)) {w : World} {a b : Nat} {x y z : Sl} {h r : List Int} {R : List (List Int)} (c s mn mx k0 M : Int) (u : Sk w a b x y z h r R) (ha : a ≤ w.heap.size) (hb : b ≤ w.heap.size)
    (hk0 : 0 ≤ k0) (lm : Aside0 (k0 + (h.length : Int) + (r.length : Int) + (lensII R : Nat) = M ∧ M ≤ 1073741824 ∧ h.length ≤ 1048576 ∧ r.length ≤ 1048576 ∧ R.length ≤ 1048576 ∧ ∀ l ∈ R, l.length ≤ 1048576)) :
    Calls Try.prog 15 #[.agg #[.int .i64 c, .int .i64 s, .int .i64 mn, .int .i64 mx, .slice x.A x.n x.c, .slice y.A y.n y.c, .slice z.A z.n z.c], .int .i64 k0] w fun e w' => e = .returned (.int .i64 M) ∧
      Sk w' a b x y z (marksI k0 h.length) (marksI (k0 + (h.length : Int)) r.length) (marksII (k0 + (h.length : Int) + (r.length : Int)) R) ∧ Kp w w' a b := by
  obtain ⟨h1, h2, h3, h4, h5, h6⟩ := lm.out
  have := mark_call k hm c s mn mx k0 u ha hb hk0 (by omega) h3 h4 h5 h6
  rw [h1] at this
  exact this
theorem rdR_get {xs : List (List Int)} {n : Nat} (h : n < xs.length) : rd_L1 xs (n : Int) = xs[n] := by
  unfold rd_L1
  rw [Int.toNat_natCast, List.getD_eq_getElem?_getD, List.getElem?_eq_getElem h]
  rfl
theorem markI_at (a : Int) (n : Nat) (ha : 0 ≤ a) (hb : a ≤ 1073741824) (hn : n ≤ 1048576) (d : Nat) : ∀ (k i : Nat) (x3 : List Int), d < k → i + d = n → x3.length = n → x3.take i = (marksI a n).take i →
    laws_markIntS.l0 k x3 (a + (i : Int)) (i : Int) = some (a + (n : Int), marksI a n) := by
  induction d with
  | zero =>
    intro k i x3 hk hi hl ht
    obtain ⟨k, rfl⟩ : ∃ m, k = m + 1 := ⟨k - 1, by omega⟩
    simp only [laws_markIntS.l0]
    rw [if_neg (by omega), take_all (ys := marksI a n) (by rw [hl, marksI_length]) (by rw [marksI_length]; omega) ht, show i = n by omega]
  | succ d ih =>
    intro k i x3 hk hi hl ht
    obtain ⟨k, rfl⟩ : ∃ m, k = m + 1 := ⟨k - 1, by omega⟩
    simp only [laws_markIntS.l0]
    rw [if_pos (by omega), if_pos (by omega), w64 (x := (i : Int) + 1) (by omega) (by omega), w64 (x := a + (i : Int) + 1) (by omega) (by omega), Int.toNat_natCast]
    have e := ih k (i + 1) (x3.set i (a + (i : Int))) (by omega) (by omega) (by simp [hl]) (by
      have hm : a + (i : Int) = (marksI a n)[i]'(by rw [marksI_length]; omega) := by rw [marksI_get]
      rw [hm]
      exact take_set (ys := marksI a n) (by rw [hl, marksI_length]) (by rw [marksI_length]; omega) ht)
    rw [show (i : Int) + 1 = ((i + 1 : Nat) : Int) by omega, show a + (i : Int) + 1 = a + ((i + 1 : Nat) : Int) by omega]
    exact e
theorem mkI (k : Nat) (hk : 1048577 ≤ k) : MkI k := by
  intro l k0 hl h0 h1
  have := markI_at k0 l.length h0 h1 hl l.length k 0 l (by omega) (by omega) rfl (by simp)
  simpa [laws_markIntS.f] using this
theorem heldI_at (a : Int) (n : Nat) (ha : 0 ≤ a) (hb : a ≤ 1073741824) (hn : n ≤ 1048576) (d : Nat) : ∀ i : Nat, i + d = n →
    Ev (fun k => laws_heldIntS.l0 k (marksI a n) (a + (i : Int)) (i : Int)) (a + (n : Int)) := by
  induction d with
  | zero =>
    intro i hi
    refine Ev.step (fun _ => rfl) ?_
    simp only [laws_heldIntS.l0]
    exact ev_neg (by rw [marksI_length]; omega) (ev_some (by rw [show i = n by omega]))
  | succ d ih =>
    intro i hi
    refine Ev.step (fun _ => rfl) ?_
    simp only [laws_heldIntS.l0]
    have hl := marksI_length a n
    refine ev_pos (by omega) (ev_pos (by omega) (ev_pos (by rw [rd_get (show i < (marksI a n).length by omega), marksI_get]) ?_))
    rw [w64 (x := (i : Int) + 1) (by omega) (by omega), w64 (x := a + (i : Int) + 1) (by omega) (by omega), show (i : Int) + 1 = ((i + 1 : Nat) : Int) by omega, show a + (i : Int) + 1 = a + ((i + 1 : Nat) : Int) by omega]
    exact ih (i + 1) (by omega)
theorem heldI_ev (a : Int) (n : Nat) (ha : 0 ≤ a) (hb : a ≤ 1073741824) (hn : n ≤ 1048576) : Ev (fun k => laws_heldIntS.f k (marksI a n) a) (a + (n : Int)) := by
  have := heldI_at a n ha hb hn n 0 (by omega)
  simpa [laws_heldIntS.f] using this
theorem heldII_at (a : Int) (R : List (List Int)) (ha : 0 ≤ a) (hb : a + (lensII R : Nat) ≤ 1073741824) (hR : R.length ≤ 1048576) (hl : ∀ l ∈ R, l.length ≤ 1048576) (d : Nat) : ∀ i : Nat, i + d = R.length →
    Ev (fun k => laws_heldIntSS.l0 k (marksII a R) (a + (lensII (R.take i) : Nat)) (i : Int)) (a + (lensII R : Nat)) := by
  induction d with
  | zero =>
    intro i hi
    refine Ev.step (fun _ => rfl) ?_
    simp only [laws_heldIntSS.l0]
    exact ev_neg (by rw [marksII_length]; omega) (ev_some (by rw [show i = R.length by omega, List.take_length]))
  | succ d ih =>
    intro i hi
    refine Ev.step (fun _ => rfl) ?_
    simp only [laws_heldIntSS.l0]
    have hlen := marksII_length R a
    have hiR : i < R.length := by omega
    have hle := lensII_le R i
    have ht := lensII_take R i hiR
    have hg : rd_L1 (marksII a R) (i : Int) = marksI (a + (lensII (R.take i) : Nat)) R[i].length := by rw [rdR_get (show i < (marksII a R).length by omega), marksII_get R a i hiR]
    rw [hg, wsucc (by omega)]
    refine ev_pos (by omega) (ev_pos (by omega) (Ev.bind (heldI_ev (a + (lensII (R.take i) : Nat)) R[i].length (by omega) (by omega) (hl _ (List.getElem_mem hiR))) (ev_neg (by omega) ?_)))
    rw [show a + (lensII (R.take i) : Nat) + (R[i].length : Int) = a + (lensII (R.take (i + 1)) : Nat) by omega]
    exact ih (i + 1) (by omega)
theorem heldSketch_ev (c s mn mx a : Int) (n m : Nat) (R : List (List Int)) (ha : 0 ≤ a) (hb : a + (n : Int) + (m : Int) + (lensII R : Nat) ≤ 1073741824) (hn : n ≤ 1048576) (hm : m ≤ 1048576) (hR : R.length ≤ 1048576) (hl : ∀ l ∈ R, l.length ≤ 1048576) :
    Ev (fun k => laws_heldSketch.f k c s mn mx (marksI a n) (marksI (a + (n : Int)) m) (marksII (a + (n : Int) + (m : Int)) R) a) (a + (n : Int) + (m : Int) + (lensII R : Nat)) := by
  unfold laws_heldSketch.f
  refine Ev.bind (heldI_ev a n ha (by omega) hn) (ev_neg (by omega) (Ev.bind (heldI_ev (a + (n : Int)) m (by omega) (by omega) hm) (ev_neg (by omega) ?_)))
  have := heldII_at (a + (n : Int) + (m : Int)) R (by omega) hb hR hl R.length 0 (by omega)
  rw [show lensII (R.take 0) = 0 from by simp [lensII]] at this
  exact Ev.bind (by simpa [laws_heldIntSS.f] using this) (ev_neg (by omega) (ev_some rfl))
theorem eq_callD (k : Nat) {w : World} {x y z x' y' z' : Sl} {h r : List Int} {R : List (List Int)} (c s mn mx : Int) (u : Rd w x y z h r R) (u' : Rd w x' y' z' h r R) (he : laws_eqSketch.f k c s mn mx h r R c s mn mx h r R = some true) :
    Calls Try.prog 12 #[.agg #[.int .i64 c, .int .i64 s, .int .i64 mn, .int .i64 mx, .slice x.A x.n x.c, .slice y.A y.n y.c, .slice z.A z.n z.c], .agg #[.int .i64 c, .int .i64 s, .int .i64 mn, .int .i64 mx, .slice x'.A x'.n x'.c, .slice y'.A y'.n y'.c, .slice z'.A z'.n z'.c]] w fun e w' => e = .returned (.bool true) ∧ Below w.heap.size w w' := by
  rw [u.e4, u.e5, u.e6, u'.e4, u'.e5, u'.e6]
  exact laws_eqSketch.calls k c s mn mx _ _ h _ _ r _ _ R c s mn mx _ _ h _ _ r _ _ R true w u.C4 u.l4 u.C5 u.l5 u.C6 u.l6 u'.C4 u'.l4 u'.C5 u'.l5 u'.C6 u'.l6 ⟨rfl⟩ he
theorem held_callD (k : Nat) {w : World} {x y z : Sl} {h r : List Int} {R : List (List Int)} (c s mn mx k0 k1 : Int) (u : Rd w x y z h r R) (he : laws_heldSketch.f k c s mn mx h r R k0 = some k1) :
    Calls Try.prog 16 #[.agg #[.int .i64 c, .int .i64 s, .int .i64 mn, .int .i64 mx, .slice x.A x.n x.c, .slice y.A y.n y.c, .slice z.A z.n z.c], .int .i64 k0] w fun e w' => e = .returned (.int .i64 k1) ∧ Below w.heap.size w w' := by
  rw [u.e4, u.e5, u.e6]
  exact laws_heldSketch.calls k c s mn mx _ _ h _ _ r _ _ R k0 k1 w u.C4 u.l4 u.C5 u.l5 u.C6 u.l6 he
theorem eqB_callD (k : Nat) {w : World} {v v' : Sl} {l : List Int} (u : Bd w v l) (u' : Bd w v' l) (he : laws_eqByteS.f k l l = some true) :
    Calls Try.prog 13 #[.slice v.A v.n v.c, .slice v'.A v'.n v'.c] w fun e w' => e = .returned (.bool true) ∧ Below w.heap.size w w' := by
  rw [u.e, u'.e]
  refine (laws_eqByteS.calls k _ _ l _ _ l true w u.C u.le u'.C u'.le ⟨rfl⟩ he).mono ?_
  rintro e w' ⟨rfl, nd, rfl⟩
  exact ⟨rfl, pw_below_drewN (Below.refl _ _) _⟩
theorem markB_call (k : Nat) {w : World} {a b : Nat} {v : Sl} {l : List Int} (k0 k1 : Int) (l' : List Int) (u : By w a b v l) (ha : a ≤ w.heap.size) (he : laws_markByteS.f k l k0 = some (k1, l')) :
    Calls Try.prog 14 #[.slice v.A v.n v.c, .int .i64 k0] w fun e w' => e = .returned (.int .i64 k1) ∧ By w' a b v l' ∧ Kp w w' a b := by
  obtain ⟨w0, hw0, hB⟩ : ∃ w0 : World, w0.heap.size = a ∧ Below a w0 w := by
    refine ⟨{ w with heap := w.heap.extract 0 a }, by simp; omega, ⟨rfl, rfl, rfl, by simp; omega, fun i hi => ?_⟩⟩
    simp [Array.getElem?_extract]
    omega
  subst hw0
  have u1 : Kd.R (Kd.int .u8) 5 w w0.heap.size (fun k => some k = (Value.slice v.A v.n v.c).ownBlock) (.slice v.A v.n v.c) l := Kd.R_tight rfl u
  refine (laws_markByteS.calls k (fun k => some k = (Value.slice v.A v.n v.c).ownBlock) (.slice v.A v.n v.c) l k0 _ _ w0 w hB u1 he).mono ?_
  rintro e w' ⟨rfl, hr, hb, hk⟩
  exact ⟨rfl, Kd.R_reok rfl hr (fun k hk => u.1 k hk), ⟨hb.os.trans hB.os.symm, hb.tape.trans hB.tape.symm, hb.output.trans hB.output.symm, hk.mono (fun i hi => ⟨Kd.R_base u i hi.symm, u.1 i hi.symm⟩)⟩⟩
theorem toByteS_at (x0 : List Int) (hn : x0.length ≤ 140737488351232) (d : Nat) : ∀ (i : Nat) (x3 : List Int), i + d = x0.length → x3.length = x0.length → x3.take i = x0.take i →
    Ev (fun k => laws_toByteS.l0 k x0 x3 (i : Int)) x0 := by
  induction d with
  | zero =>
    intro i x3 hi hl ht
    refine Ev.step (fun _ => rfl) ?_
    simp only [laws_toByteS.l0]
    refine ev_neg (by omega) (ev_some (take_all hl (by omega) ht))
  | succ d ih =>
    intro i x3 hi hl ht
    refine Ev.step (fun _ => rfl) ?_
    simp only [laws_toByteS.l0]
    refine ev_pos (by omega) (ev_pos (by omega) (ev_pos (by omega) ?_))
    rw [w64 (x := (i : Int) + 1) (by omega) (by omega), rd_get (show i < x0.length by omega), Int.toNat_natCast, show (i : Int) + 1 = ((i + 1 : Nat) : Int) by omega]
    exact ih (i + 1) _ (by omega) (by simp [hl]) (take_set hl (by omega) ht)
theorem toByteS_ev (x0 : List Int) (hn : x0.length ≤ 140737488351232) : Ev (fun k => laws_toByteS.f k x0) x0 := by
  unfold laws_toByteS.f
  refine ev_pos (by omega) (ev_pos (by omega) ?_)
  exact toByteS_at x0 hn x0.length 0 _ (by omega) (by simp) (by simp)
theorem eqByteS_at (x0 : List Int) (hn : x0.length ≤ 140737488351232) (d : Nat) : ∀ (i : Nat), i + d = x0.length →
    Ev (fun k => laws_eqByteS.l0 k x0 x0 (i : Int)) true := by
  induction d with
  | zero =>
    intro i hi
    refine Ev.step (fun _ => rfl) ?_
    simp only [laws_eqByteS.l0]
    refine ev_neg (by omega) (ev_some rfl)
  | succ d ih =>
    intro i hi
    refine Ev.step (fun _ => rfl) ?_
    simp only [laws_eqByteS.l0]
    refine ev_pos (by omega) (ev_pos (by omega) (ev_pos (by omega) (ev_pos (by trivial) ?_)))
    rw [w64 (x := (i : Int) + 1) (by omega) (by omega), show (i : Int) + 1 = ((i + 1 : Nat) : Int) by omega]
    exact ih (i + 1) (by omega)
theorem eqByteS_ev (x0 : List Int) (hn : x0.length ≤ 140737488351232) : Ev (fun k => laws_eqByteS.f k x0 x0) true := by
  unfold laws_eqByteS.f
  exact ev_pos rfl (eqByteS_at x0 hn x0.length 0 (by omega))
theorem markByteS_at (a : Nat) (n : Nat) (hn : a + n ≤ 281474976702464) (d : Nat) : ∀ (i : Nat) (x3 : List Int), i + d = n → x3.length = n → x3.take i = (marks8 a n).take i →
    Ev (fun k => laws_markByteS.l0 k x3 ((a + i : Nat) : Int) (i : Int)) (((a + n : Nat) : Int), marks8 a n) := by
  induction d with
  | zero =>
    intro i x3 hi hl ht
    refine Ev.step (fun _ => rfl) ?_
    simp only [laws_markByteS.l0]
    refine ev_neg (by omega) (ev_some ?_)
    rw [take_all (ys := marks8 a n) (by rw [hl, marks8_length]) (by rw [marks8_length]; omega) ht, show i = n by omega]
  | succ d ih =>
    intro i x3 hi hl ht
    refine Ev.step (fun _ => rfl) ?_
    simp only [laws_markByteS.l0]
    refine ev_pos (by omega) (ev_pos (by omega) ?_)
    rw [w64 (x := (i : Int) + 1) (by omega) (by omega), w64 (x := ((a + i : Nat) : Int) + 1) (by omega) (by omega), Int.toNat_natCast, show (i : Int) + 1 = ((i + 1 : Nat) : Int) by omega, show ((a + i : Nat) : Int) + 1 = ((a + (i + 1) : Nat) : Int) by omega]
    have hm : ((a + i : Nat) : Int) % 256 = (marks8 a n)[i]'(by rw [marks8_length]; omega) := by
      rw [marks8_get]
    rw [hm]
    exact ih (i + 1) _ (by omega) (by simp [hl]) (take_set (ys := marks8 a n) (by rw [hl, marks8_length]) (by rw [marks8_length]; omega) ht)
theorem markByteS_ev (x0 : List Int) (a : Nat) (hn : a + x0.length ≤ 281474976702464) : Ev (fun k => laws_markByteS.f k x0 (a : Int)) (((a + x0.length : Nat) : Int), marks8 a x0.length) := by
  unfold laws_markByteS.f
  exact markByteS_at a x0.length hn x0.length 0 x0 (by omega) rfl (by simp)
theorem eqIntS_at (x0 : List Int) (hn : x0.length ≤ 1048576) (d : Nat) : ∀ (i : Nat), i + d = x0.length →
    Ev (fun k => laws_eqIntS.l0 k x0 x0 (i : Int)) true := by
  induction d with
  | zero =>
    intro i hi
    refine Ev.step (fun _ => rfl) ?_
    simp only [laws_eqIntS.l0]
    refine ev_neg (by omega) (ev_some rfl)
  | succ d ih =>
    intro i hi
    refine Ev.step (fun _ => rfl) ?_
    simp only [laws_eqIntS.l0]
    refine ev_pos (by omega) (ev_pos (by omega) (ev_pos (by omega) (ev_pos (by trivial) ?_)))
    rw [wsucc (by omega)]
    exact ih (i + 1) (by omega)
theorem eqIntS_ev (x0 : List Int) (hn : x0.length ≤ 1048576) : Ev (fun k => laws_eqIntS.f k x0 x0) true := by
  unfold laws_eqIntS.f
  exact ev_pos (by trivial) (eqIntS_at x0 hn x0.length 0 (by omega))
theorem eqIntSS_at (x0 : List (List Int)) (hn : x0.length ≤ 1048576) (hx : ∀ x ∈ x0, x.length ≤ 1048576) (d : Nat) : ∀ (i : Nat), i + d = x0.length →
    Ev (fun k => laws_eqIntSS.l0 k x0 x0 (i : Int)) true := by
  induction d with
  | zero =>
    intro i hi
    refine Ev.step (fun _ => rfl) ?_
    simp only [laws_eqIntSS.l0]
    refine ev_neg (by omega) (ev_some rfl)
  | succ d ih =>
    intro i hi
    refine Ev.step (fun _ => rfl) ?_
    simp only [laws_eqIntSS.l0]
    rw [wsucc (by omega), rdR_get (show i < x0.length by omega)]
    refine ev_pos (by omega) (ev_pos (by omega) (ev_pos (by omega) (Ev.bind (eqIntS_ev _ (hx _ (List.getElem_mem (by omega)))) (ev_pos (by trivial) ?_))))
    exact ih (i + 1) (by omega)
theorem eqIntSS_ev (x0 : List (List Int)) (hn : x0.length ≤ 1048576) (hx : ∀ x ∈ x0, x.length ≤ 1048576) : Ev (fun k => laws_eqIntSS.f k x0 x0) true := by
  unfold laws_eqIntSS.f
  exact ev_pos (by trivial) (eqIntSS_at x0 hn hx x0.length 0 (by omega))
theorem eqSketch_ev (c s mn mx : Int) (h r : List Int) (R : List (List Int)) (hh : h.length ≤ 1048576) (hr : r.length ≤ 1048576) (hR : R.length ≤ 1048576) (hx : ∀ x ∈ R, x.length ≤ 1048576) :
    Ev (fun k => laws_eqSketch.f k c s mn mx h r R c s mn mx h r R) true := by
  unfold laws_eqSketch.f
  refine ev_pos (by trivial) (ev_pos (by trivial) (ev_pos (by trivial) (ev_pos (by trivial) ?_)))
  exact Ev.bind (eqIntS_ev h hh) (ev_pos (by trivial) (Ev.bind (eqIntS_ev r hr) (ev_pos (by trivial) (Ev.bind (eqIntSS_ev R hR hx) (ev_pos (by trivial) (ev_some rfl))))))
theorem within_is (a b c : Int) : impl_within.f a b c = some (decide (b ≤ a ∧ a ≤ c)) := in_is a b c
theorem l1In_is (a b c : Int) : spec_l1In.f a b c = some (decide (b ≤ a ∧ a ≤ c)) := in_is a b c
/-- A list of so many numbers from 0 to a most, all 0 where that is asked. -/
def LiOk (xs : List Int) (n : Nat) (most : Int) (zero : Prop) : Prop := xs.length = n ∧ ∀ x ∈ xs, (0 ≤ x ∧ x ≤ most) ∧ (zero → x = 0)
/-- A summary is right. -/
def SkOk (c s mn mx : Int) (h r : List Int) (R : List (List Int)) : Prop :=
  (0 ≤ c ∧ c ≤ 1000000000) ∧ (0 ≤ s ∧ s ≤ 1000000000) ∧ (0 ≤ mn ∧ mn ≤ 1000000) ∧ (0 ≤ mx ∧ mx ≤ 1000000) ∧ mn ≤ mx ∧ R.length = 2 ∧ (c = 0 → s = 0 ∧ mx = 0) ∧
  LiOk h 8 1000000000 (c = 0) ∧ LiOk r 8 17 (c = 0) ∧ LiOk (rd_L1 R 0) 4 1000000000 (c = 0) ∧ LiOk (rd_L1 R 1) 4 1000000000 (c = 0)
noncomputable def skOk (c s mn mx : Int) (h r : List Int) (R : List (List Int)) : Bool := @decide (SkOk c s mn mx h r R) (Classical.propDecidable _)
theorem skOk_true {c s mn mx : Int} {h r : List Int} {R : List (List Int)} : skOk c s mn mx h r R = true ↔ SkOk c s mn mx h r R := by
  unfold skOk
  exact @decide_eq_true_iff _ (Classical.propDecidable _)
theorem skOk_false {c s mn mx : Int} {h r : List Int} {R : List (List Int)} (hn : ¬ SkOk c s mn mx h r R) : skOk c s mn mx h r R = false := by
  cases e : skOk c s mn mx h r R with
  | false => rfl
  | true => exact absurd (skOk_true.1 e) hn
theorem l3List_at (xs : List Int) (n : Nat) (most : Int) (z : Bool) (hn : n ≤ 8) (hl : xs.length = n) (r : Bool) (d : Nat) : ∀ i : Nat, i + d = n →
    ((∀ x ∈ xs.drop i, (0 ≤ x ∧ x ≤ most) ∧ (z = true → x = 0)) → r = true) → (¬ (∀ x ∈ xs.drop i, (0 ≤ x ∧ x ≤ most) ∧ (z = true → x = 0)) → r = false) →
    Ev (fun k => spec_l3List.l0 k xs (n : Int) most z (i : Int)) r := by
  induction d with
  | zero =>
    intro i hi h1 _
    refine Ev.step (fun _ => rfl) ?_
    simp only [spec_l3List.l0]
    refine ev_neg (by omega) (ev_some ?_)
    rw [h1]
    intro x hx
    rw [List.drop_of_length_le (by omega)] at hx
    cases hx
  | succ d ih =>
    intro i hi h1 h2
    have hg : i < xs.length := by omega
    rw [List.drop_eq_getElem_cons hg] at h1 h2
    refine Ev.step (fun _ => rfl) ?_
    simp only [spec_l3List.l0]
    rw [wsucc (by omega), rd_get hg]
    refine ev_pos (by omega) (ev_pos (by omega) (ev_pos (by omega) (ev_bind0 (l1In_is _ _ _) ?_)))
    by_cases c : 0 ≤ xs[i] ∧ xs[i] ≤ most
    · refine ev_pos (decide_eq_true c) ?_
      have hrec : (z = true → xs[i] = 0) → Ev (fun k => spec_l3List.l0 k xs (n : Int) most z ((i + 1 : Nat) : Int)) r := by
        intro hz
        refine ih (i + 1) (by omega) (fun h => h1 fun x hx => ?_) (fun h => h2 fun g => h fun x hx => g x (List.mem_cons_of_mem _ hx))
        rcases List.mem_cons.1 hx with rfl | hx
        · exact ⟨c, hz⟩
        · exact h x hx
      by_cases hz : z = true
      · refine ev_pos hz ?_
        by_cases h0 : xs[i] = 0
        · exact ev_pos h0 (hrec fun _ => h0)
        · refine ev_neg h0 (ev_some ?_)
          exact (h2 fun g => h0 ((g _ List.mem_cons_self).2 hz)).symm
      · exact ev_neg hz (hrec fun h => absurd h hz)
    · refine ev_neg (by rw [decide_eq_false c]; exact Bool.false_ne_true) (ev_some ?_)
      exact (h2 fun g => c (g _ List.mem_cons_self).1).symm
theorem l3List_ev (xs : List Int) (n : Nat) (most : Int) (z : Bool) (hn : n ≤ 8) (r : Bool) (h1 : LiOk xs n most (z = true) → r = true) (h2 : ¬ LiOk xs n most (z = true) → r = false) : Ev (fun k => spec_l3List.f k xs (n : Int) most z) r := by
  unfold spec_l3List.f
  by_cases hl : xs.length = n
  · exact ev_pos (by omega) (l3List_at xs n most z hn hl r n 0 (by omega) (fun h => h1 ⟨hl, h⟩) (fun h => h2 fun g => h g.2))
  · exact ev_neg (by omega) (ev_some (h2 fun g => hl g.1).symm)
theorem l3List_dec (xs : List Int) (n : Nat) (most : Int) (z : Bool) (hn : n ≤ 8) (Z : Prop) (hz : (z = true) = Z) : Ev (fun k => spec_l3List.f k xs (n : Int) most z) (@decide (LiOk xs n most Z) (Classical.propDecidable _)) := by
  subst hz
  exact l3List_ev xs n most z hn _ (fun h => @decide_eq_true _ (Classical.propDecidable _) h) (fun h => @decide_eq_false _ (Classical.propDecidable _) h)
theorem spec_sketchOk_j1 (c s mn mx : Int) (h r : List Int) (R : List (List Int)) (hR : R.length = 2) (f : Bool) (v : Bool)
    (hv : f = false → LiOk h 8 1000000000 (c = 0) → LiOk r 8 17 (c = 0) → LiOk (rd_L1 R 0) 4 1000000000 (c = 0) → LiOk (rd_L1 R 1) 4 1000000000 (c = 0) → v = true)
    (hn : ¬ (f = false ∧ LiOk h 8 1000000000 (c = 0) ∧ LiOk r 8 17 (c = 0) ∧ LiOk (rd_L1 R 0) 4 1000000000 (c = 0) ∧ LiOk (rd_L1 R 1) 4 1000000000 (c = 0)) → v = false) :
    Ev (fun k => spec_SketchOk.j1 k (c == 0) f c s mn mx h r R) v := by
  have ez : ((c == 0) = true) = (c = 0) := by simp
  refine Ev.step (fun _ => rfl) ?_
  simp only [spec_SketchOk.j1]
  refine ev_if (fun hf => ev_some (hn fun g => by rw [hf] at g; exact absurd g.1 (by simp)).symm) (fun hf => ?_)
  have hf' : f = false := by simpa using hf
  have L := fun xs n most hn => l3List_dec xs n most (c == 0) hn (c = 0) ez
  refine Ev.bind (L h 8 1000000000 (by omega)) ?_
  refine ev_if (fun g1 => ?_) (fun g1 => ev_some (hn fun g => g1 (@decide_eq_true _ (Classical.propDecidable _) g.2.1)).symm)
  refine Ev.bind (L r 8 17 (by omega)) ?_
  refine ev_if (fun g2 => ?_) (fun g2 => ev_some (hn fun g => g2 (@decide_eq_true _ (Classical.propDecidable _) g.2.2.1)).symm)
  refine ev_pos (by omega) (Ev.bind (L (rd_L1 R 0) 4 1000000000 (by omega)) ?_)
  refine ev_if (fun g3 => ?_) (fun g3 => ev_some (hn fun g => g3 (@decide_eq_true _ (Classical.propDecidable _) g.2.2.2.1)).symm)
  refine ev_pos (by omega) (Ev.bind (L (rd_L1 R 1) 4 1000000000 (by omega)) (ev_some ?_))
  have t1 := @of_decide_eq_true _ (Classical.propDecidable _) g1
  have t2 := @of_decide_eq_true _ (Classical.propDecidable _) g2
  have t3 := @of_decide_eq_true _ (Classical.propDecidable _) g3
  by_cases t4 : LiOk (rd_L1 R 1) 4 1000000000 (c = 0)
  · rw [hv hf' t1 t2 t3 t4]
    exact @decide_eq_true _ (Classical.propDecidable _) t4
  · rw [hn fun g => t4 g.2.2.2.2]
    exact @decide_eq_false _ (Classical.propDecidable _) t4
theorem spec_sketchOk_ev (c s mn mx : Int) (h r : List Int) (R : List (List Int)) : Ev (fun k => spec_SketchOk.f k c s mn mx h r R) (skOk c s mn mx h r R) := by
  have bad : ¬ SkOk c s mn mx h r R → Ev (fun k => spec_SketchOk.j0 k true c s mn mx h r R) (skOk c s mn mx h r R) := by
    intro hb
    refine Ev.step (fun _ => rfl) ?_
    simp only [spec_SketchOk.j0]
    exact ev_pos (by trivial) (ev_some (skOk_false hb).symm)
  unfold spec_SketchOk.f
  refine ev_bind0 (l1In_is _ _ _) ?_
  by_cases a1 : 0 ≤ c ∧ c ≤ 1000000000
  case neg => exact ev_neg (by rw [decide_eq_false a1]; exact Bool.false_ne_true) (bad fun g => a1 g.1)
  refine ev_pos (decide_eq_true a1) (ev_bind0 (l1In_is _ _ _) ?_)
  by_cases a2 : 0 ≤ s ∧ s ≤ 1000000000
  case neg => exact ev_neg (by rw [decide_eq_false a2]; exact Bool.false_ne_true) (bad fun g => a2 g.2.1)
  refine ev_pos (decide_eq_true a2) (ev_bind0 (l1In_is _ _ _) ?_)
  by_cases a3 : 0 ≤ mn ∧ mn ≤ 1000000
  case neg => exact ev_neg (by rw [decide_eq_false a3]; exact Bool.false_ne_true) (bad fun g => a3 g.2.2.1)
  refine ev_pos (decide_eq_true a3) (ev_bind0 (l1In_is _ _ _) ?_)
  by_cases a4 : 0 ≤ mx ∧ mx ≤ 1000000
  case neg => exact ev_neg (by rw [decide_eq_false a4]; exact Bool.false_ne_true) (bad fun g => a4 g.2.2.2.1)
  refine ev_pos (decide_eq_true a4) ?_
  by_cases a5 : mn ≤ mx
  case neg => exact ev_pos (by omega) (bad fun g => a5 g.2.2.2.2.1)
  refine ev_neg (by omega) ?_
  by_cases a6 : R.length = 2
  case neg =>
    have e : ((R.length : Int) != 2) = true := by simp; omega
    rw [e]
    exact bad fun g => a6 g.2.2.2.2.2.1
  have e : ((R.length : Int) != 2) = false := by simp; omega
  rw [e]
  refine Ev.step (fun _ => rfl) ?_
  simp only [spec_SketchOk.j0]
  refine ev_neg (by simp) ?_
  have fin : ∀ f : Bool, (f = false ↔ (c = 0 → s = 0 ∧ mx = 0)) → Ev (fun k => spec_SketchOk.j1 k (c == 0) f c s mn mx h r R) (skOk c s mn mx h r R) := by
    intro f hf
    refine spec_sketchOk_j1 c s mn mx h r R a6 f _ (fun g1 g2 g3 g4 g5 => skOk_true.2 ⟨a1, a2, a3, a4, a5, a6, hf.1 g1, g2, g3, g4, g5⟩) (fun g => skOk_false fun q => g ⟨hf.2 q.2.2.2.2.2.2.1, q.2.2.2.2.2.2.2⟩)
  refine ev_if (fun z => ?_) (fun z => fin false ⟨fun _ h => absurd h z, fun _ => rfl⟩)
  refine ev_if (fun z2 => fin _ ?_) (fun z2 => fin true ⟨fun h => by simp at h, fun h => absurd (h z).1 z2⟩)
  constructor
  · intro h _
    exact ⟨z2, by simpa using h⟩
  · intro h
    simpa using (h z).2
theorem sum_bd (ys : List Int) (h : ∀ x ∈ ys, 0 ≤ x ∧ x ≤ 1000000000) : 0 ≤ ys.sum ∧ ys.sum ≤ ys.length * 1000000000 := by
  induction ys with
  | nil => simp
  | cons y ys ih =>
    have h1 := h y List.mem_cons_self
    have h2 := ih fun x hx => h x (List.mem_cons_of_mem _ hx)
    rw [List.sum_cons, List.length_cons]
    omega
theorem sum_zero (ys : List Int) (h : ∀ x ∈ ys, 0 ≤ x ∧ x ≤ 1000000000) (h0 : ys.sum = 0) : ∀ x ∈ ys, x = 0 := by
  induction ys with
  | nil => exact fun x hx => by cases hx
  | cons y ys ih =>
    intro x hx
    have h1 := h y List.mem_cons_self
    have h2 := sum_bd ys fun x hx => h x (List.mem_cons_of_mem _ hx)
    rw [List.sum_cons] at h0
    rcases List.mem_cons.1 hx with rfl | hx
    · omega
    · exact ih (fun x hx => h x (List.mem_cons_of_mem _ hx)) (by omega) x hx
theorem zero_sum (ys : List Int) (h : ∀ x ∈ ys, x = 0) : ys.sum = 0 := by
  induction ys with
  | nil => rfl
  | cons y ys ih =>
    rw [List.sum_cons, h y List.mem_cons_self, ih fun x hx => h x (List.mem_cons_of_mem _ hx)]
    rfl
theorem copyInts_is (xs : List Int) (h : xs.length ≤ 1048576) : impl_copyInts.f xs = some xs := by
  unfold impl_copyInts.f
  rw [if_pos (by simp; omega)]
  rfl
theorem counts_ev (c s mn mx : Int) (h r A B : List Int) (hh : h.length ≤ 8) (hr : r.length ≤ 8) (hA : A.length ≤ 8) (hB : B.length ≤ 8) :
    Ev (fun k => impl_counts.f k c s mn mx h r [A, B]) (((h ++ r) ++ A) ++ B) := by
  unfold impl_counts.f
  refine ev_bind0 (copyInts_is h (by omega)) (ev_pos (by omega) ?_)
  refine Ev.step (fun _ => rfl) ?_
  simp only [impl_counts.l0]
  refine ev_pos (by simp) (ev_pos (by simp) (ev_pos (by simp) ?_))
  have e0 : rd_L1 [A, B] 0 = A := rfl
  have w1 : wrap64 (0 + 1) = 1 := by unfold wrap64; omega
  have w2 : wrap64 (1 + 1) = 2 := by unfold wrap64; omega
  have e1 : rd_L1 [A, B] (wrap64 (0 + 1)) = B := by rw [w1]; rfl
  refine ev_pos (by rw [e0]; simp; omega) ?_
  refine Ev.step (fun _ => rfl) ?_
  simp only [impl_counts.l0]
  refine ev_pos (by rw [w1]; simp) (ev_pos (by rw [w1]; omega) (ev_pos (by rw [w1]; simp) ?_))
  refine ev_pos (by rw [e0, e1]; simp; omega) ?_
  refine Ev.step (fun _ => rfl) ?_
  simp only [impl_counts.l0]
  exact ev_neg (by rw [w1, w2]; simp) (ev_some (by rw [e0, e1]))
theorem impl_sketchOk_l1 (c s mn mx : Int) (h r : List Int) (R : List (List Int)) (v : Bool) (t : Int) (hr : r.length ≤ 8) (d : Nat) : ∀ i : Nat, i + d = r.length →
    ((∀ x ∈ r.drop i, x ≤ 17) → v = if c = 0 then (t == 0) else decide (mn ≤ mx ∧ mx ≤ 1000000)) → (¬ (∀ x ∈ r.drop i, x ≤ 17) → v = false) →
    Ev (fun k => impl_SketchOk.l1 k t r (r.length : Int) (i : Int) c s mn mx h r R) v := by
  induction d with
  | zero =>
    intro i hi h1 _
    refine Ev.step (fun _ => rfl) ?_
    simp only [impl_SketchOk.l1]
    refine ev_neg (by omega) ?_
    rw [h1 (fun x hx => by rw [List.drop_of_length_le (by omega)] at hx; cases hx)]
    by_cases hc : c = 0
    · exact ev_pos hc (ev_some (by rw [if_pos hc]))
    · refine ev_neg hc (ev_if (fun g => ev_some ?_) (fun g => ev_some (by rw [if_neg hc]; exact (decide_eq_false fun q => g q.1).symm)))
      rw [if_neg hc]
      exact decide_eq_decide.mpr ⟨fun x => ⟨g, x⟩, fun x => x.2⟩
  | succ d ih =>
    intro i hi h1 h2
    have hg : i < r.length := by omega
    rw [List.drop_eq_getElem_cons hg] at h1 h2
    refine Ev.step (fun _ => rfl) ?_
    simp only [impl_SketchOk.l1]
    rw [wsucc (by omega), rd_get hg]
    refine ev_pos (by omega) (ev_pos (by omega) (ev_pos (by omega) ?_))
    by_cases g : r[i] > 17
    · exact ev_pos g (ev_some (h2 fun q => by have := q _ List.mem_cons_self; omega).symm)
    · refine ev_neg g (ih (i + 1) (by omega) (fun q => h1 fun x hx => ?_) (fun q => h2 fun p => q fun x hx => p x (List.mem_cons_of_mem _ hx)))
      rcases List.mem_cons.1 hx with rfl | hx
      · omega
      · exact q x hx
theorem impl_sketchOk_l0 (c s mn mx : Int) (h r : List Int) (R : List (List Int)) (v : Bool) (ys : List Int) (hy : ys.length ≤ 100) (d : Nat) : ∀ (i : Nat) (t : Int), i + d = ys.length → 0 ≤ t → t ≤ (i : Int) * 1000000000 →
    ((∀ x ∈ ys.drop i, 0 ≤ x ∧ x ≤ 1000000000) → Ev (fun k => impl_SketchOk.l1 k (t + (ys.drop i).sum) r (r.length : Int) 0 c s mn mx h r R) v) → (¬ (∀ x ∈ ys.drop i, 0 ≤ x ∧ x ≤ 1000000000) → v = false) →
    Ev (fun k => impl_SketchOk.l0 k t ys (ys.length : Int) (i : Int) c s mn mx h r R) v := by
  induction d with
  | zero =>
    intro i t hi h0 ht h1 _
    refine Ev.step (fun _ => rfl) ?_
    simp only [impl_SketchOk.l0]
    refine ev_neg (by omega) ?_
    rw [List.drop_of_length_le (by omega)] at h1
    have := h1 (fun x hx => by cases hx)
    rw [List.sum_nil, Int.add_zero] at this
    exact this
  | succ d ih =>
    intro i t hi h0 ht h1 h2
    have hg : i < ys.length := by omega
    rw [List.drop_eq_getElem_cons hg] at h1 h2
    refine Ev.step (fun _ => rfl) ?_
    simp only [impl_SketchOk.l0]
    rw [wsucc (by omega), rd_get hg]
    refine ev_pos (by omega) (ev_pos (by omega) (ev_pos (by omega) (ev_bind0 (within_is _ _ _) ?_)))
    by_cases g : 0 ≤ ys[i] ∧ ys[i] ≤ 1000000000
    · refine ev_pos (decide_eq_true g) ?_
      rw [w64 (x := t + ys[i]) (by omega) (by omega)]
      refine ih (i + 1) _ (by omega) (by omega) (by omega) (fun q => ?_) (fun q => h2 fun p => q fun x hx => p x (List.mem_cons_of_mem _ hx))
      rw [Int.add_assoc, ← List.sum_cons]
      refine h1 fun x hx => ?_
      rcases List.mem_cons.1 hx with rfl | hx
      · exact g
      · exact q x hx
    · exact ev_neg (by rw [decide_eq_false g]; exact Bool.false_ne_true) (ev_some (h2 fun q => g (q _ List.mem_cons_self)).symm)
theorem impl_sketchOk_ev (c s mn mx : Int) (h r : List Int) (R : List (List Int)) : Ev (fun k => impl_SketchOk.f k c s mn mx h r R) (skOk c s mn mx h r R) := by
  have bad : ¬ SkOk c s mn mx h r R → Ev (fun k => impl_SketchOk.j0 k true c s mn mx h r R) (skOk c s mn mx h r R) := by
    intro hb
    refine Ev.step (fun _ => rfl) ?_
    simp only [impl_SketchOk.j0]
    exact ev_pos (by trivial) (ev_some (skOk_false hb).symm)
  unfold impl_SketchOk.f
  by_cases a1 : h.length = 8
  case neg => exact ev_neg (by omega) (bad fun g => a1 g.2.2.2.2.2.2.2.1.1)
  refine ev_pos (by omega) ?_
  by_cases a2 : r.length = 8
  case neg => exact ev_neg (by omega) (bad fun g => a2 g.2.2.2.2.2.2.2.2.1.1)
  refine ev_pos (by omega) ?_
  by_cases a3 : R.length = 2
  case neg => exact ev_neg (by omega) (bad fun g => a3 g.2.2.2.2.2.1)
  refine ev_pos (by omega) (ev_pos (by omega) ?_)
  by_cases a4 : (rd_L1 R 0).length = 4
  case neg => exact ev_neg (by omega) (bad fun g => a4 g.2.2.2.2.2.2.2.2.2.1.1)
  refine ev_pos (by omega) (ev_pos (by omega) ?_)
  by_cases a5 : (rd_L1 R 1).length = 4
  case neg =>
    have e : (((rd_L1 R 1).length : Int) != 4) = true := by simp; omega
    rw [e]
    exact bad fun g => a5 g.2.2.2.2.2.2.2.2.2.2.1
  have e : (((rd_L1 R 1).length : Int) != 4) = false := by simp; omega
  rw [e]
  clear e bad
  obtain ⟨A, B, rfl⟩ : ∃ A B, R = [A, B] := by
    match R, a3 with
    | [A, B], _ => exact ⟨A, B, rfl⟩
  have eA : rd_L1 [A, B] 0 = A := rfl
  have eB : rd_L1 [A, B] 1 = B := rfl
  rw [eA] at a4
  rw [eB] at a5
  refine Ev.step (fun _ => rfl) ?_
  simp only [impl_SketchOk.j0]
  refine ev_neg (by simp) (Ev.bind (counts_ev c s mn mx h r A B (by omega) (by omega) (by omega) (by omega)) (ev_bind0 rfl (ev_pos ?_ (ev_bind0 rfl ?_))))
  · simp only [List.length_append, List.length_cons, List.length_nil]
    omega
  generalize hys : (((h ++ r) ++ A) ++ B) ++ [c, s, mn, mx] = ys
  have hyl : ys.length = 28 := by
    rw [← hys]
    simp only [List.length_append, List.length_cons, List.length_nil]
    omega
  have hmem : ∀ P : Int → Prop, (∀ x ∈ ys, P x) ↔ (∀ x ∈ h, P x) ∧ (∀ x ∈ r, P x) ∧ (∀ x ∈ A, P x) ∧ (∀ x ∈ B, P x) ∧ P c ∧ P s ∧ P mn ∧ P mx := by
    intro P
    rw [← hys]
    constructor
    · intro q
      exact ⟨fun x hx => q x (by simp [hx]), fun x hx => q x (by simp [hx]), fun x hx => q x (by simp [hx]), fun x hx => q x (by simp [hx]), q c (by simp), q s (by simp), q mn (by simp), q mx (by simp)⟩
    · rintro ⟨q1, q2, q3, q4, q5, q6, q7, q8⟩ x hx
      simp only [List.mem_append, List.mem_cons, List.not_mem_nil, or_false] at hx
      rcases hx with (((hx | hx) | hx) | hx) | rfl | rfl | rfl | rfl
      · exact q1 x hx
      · exact q2 x hx
      · exact q3 x hx
      · exact q4 x hx
      · exact q5
      · exact q6
      · exact q7
      · exact q8
  refine impl_sketchOk_l0 c s mn mx h r [A, B] _ ys (by omega) 28 0 0 (by omega) (by omega) (by omega) (fun q => ?_) (fun q => skOk_false fun g => q ?_)
  · rw [List.drop_zero] at q
    rw [List.drop_zero, Int.zero_add]
    have qq := (hmem _).1 q
    refine impl_sketchOk_l1 c s mn mx h r [A, B] _ ys.sum (by omega) 8 0 (by omega) (fun p => ?_) (fun p => skOk_false fun g => p fun x hx => ?_)
    · rw [List.drop_zero] at p
      by_cases hc : c = 0
      · rw [if_pos hc]
        by_cases hz : ys.sum = 0
        · have z := (hmem _).1 (sum_zero ys q hz)
          have e : (ys.sum == 0) = true := by simpa using hz
          rw [e]
          refine skOk_true.2 ⟨by omega, by omega, by omega, by omega, by omega, rfl, fun _ => ⟨z.2.2.2.2.2.1, z.2.2.2.2.2.2.2⟩, ⟨a1, fun x hx => ⟨qq.1 x hx, fun _ => z.1 x hx⟩⟩, ⟨a2, fun x hx => ⟨⟨(qq.2.1 x hx).1, p x hx⟩, fun _ => z.2.1 x hx⟩⟩, ⟨a4, fun x hx => ⟨qq.2.2.1 x hx, fun _ => z.2.2.1 x hx⟩⟩, ⟨a5, fun x hx => ⟨qq.2.2.2.1 x hx, fun _ => z.2.2.2.1 x hx⟩⟩⟩
        · have e : (ys.sum == 0) = false := by simpa using hz
          rw [e]
          refine skOk_false fun g => hz (zero_sum ys ((hmem _).2 ?_))
          obtain ⟨g1, g2, g3, g4, g5, g6, g7, g8, g9, g10, g11⟩ := g
          have := g7 hc
          exact ⟨fun x hx => (g8.2 x hx).2 hc, fun x hx => (g9.2 x hx).2 hc, fun x hx => (g10.2 x hx).2 hc, fun x hx => (g11.2 x hx).2 hc, hc, this.1, by omega, this.2⟩
      · rw [if_neg hc]
        by_cases hm : mn ≤ mx ∧ mx ≤ 1000000
        · rw [decide_eq_true hm]
          refine skOk_true.2 ⟨qq.2.2.2.2.1, qq.2.2.2.2.2.1, by omega, by omega, hm.1, rfl, fun z => absurd z hc, ⟨a1, fun x hx => ⟨qq.1 x hx, fun z => absurd z hc⟩⟩, ⟨a2, fun x hx => ⟨⟨(qq.2.1 x hx).1, p x hx⟩, fun z => absurd z hc⟩⟩, ⟨a4, fun x hx => ⟨qq.2.2.1 x hx, fun z => absurd z hc⟩⟩, ⟨a5, fun x hx => ⟨qq.2.2.2.1 x hx, fun z => absurd z hc⟩⟩⟩
        · rw [decide_eq_false hm]
          exact skOk_false fun g => hm ⟨g.2.2.2.2.1, g.2.2.2.1.2⟩
    · rw [List.drop_zero] at hx
      exact (g.2.2.2.2.2.2.2.2.1.2 x hx).1.2
  · rw [List.drop_zero]
    obtain ⟨g1, g2, g3, g4, g5, g6, g7, g8, g9, g10, g11⟩ := g
    exact (hmem _).2 ⟨fun x hx => (g8.2 x hx).1, fun x hx => by have := (g9.2 x hx).1; omega, fun x hx => (g10.2 x hx).1, fun x hx => (g11.2 x hx).1, g1, g2, by omega, by omega⟩
/-- Seven bits a byte, the low ones first; 128 more in each but the last. -/
def pnum : Nat → Nat → List Int
  | 0, n => [(n : Int)]
  | d + 1, n => if 128 ≤ n then (((n % 128 + 128 : Nat)) : Int) :: pnum d (n / 128) else [(n : Int)]
def putNum (a : Int) : List Int := if 0 ≤ a ∧ a ≤ 2147483647 then pnum 4 a.toNat else []
theorem pnum_length (d n : Nat) : (pnum d n).length ≤ d + 1 := by
  induction d generalizing n with
  | zero => simp [pnum]
  | succ d ih =>
    unfold pnum
    split
    · have := ih (n / 128)
      simp
      omega
    · simp
theorem putNum_length (a : Int) : (putNum a).length ≤ 5 := by
  unfold putNum
  split
  · exact pnum_length 4 _
  · simp
theorem impl_putNum_at (d : Nat) : ∀ (n : Nat) (x3 : List Int), n < 128 ^ (d + 1) → n ≤ 2147483647 → x3.length + d ≤ 100 →
    Ev (fun k => impl_PutNum.l0 k (n : Int) x3) (x3 ++ pnum d n) := by
  induction d with
  | zero =>
    intro n x3 hn hm hl
    refine Ev.step (fun _ => rfl) ?_
    simp only [impl_PutNum.l0]
    refine ev_neg (by omega) (ev_pos (by omega) (ev_some ?_))
    rw [Int.emod_eq_of_lt (by omega) (by omega)]
    rfl
  | succ d ih =>
    intro n x3 hn hm hl
    refine Ev.step (fun _ => rfl) ?_
    simp only [impl_PutNum.l0]
    by_cases h : 128 ≤ n
    · refine ev_pos (by omega) (ev_pos (by omega) ?_)
      have e1 : wrap64 (Int.tdiv (n : Int) 128) = ((n / 128 : Nat) : Int) := by
        rw [Int.tdiv_eq_ediv_of_nonneg (by omega), w64 (by omega) (by omega)]
        omega
      have e2 : (wrap64 ((Int.tmod (n : Int) 128) + 128)) % 256 = (((n % 128 + 128 : Nat)) : Int) := by
        rw [Int.tmod_eq_emod_of_nonneg (by omega), w64 (by omega) (by omega)]
        omega
      rw [e1, e2]
      have := ih (n / 128) (x3 ++ [(((n % 128 + 128 : Nat)) : Int)]) (by rw [Nat.pow_succ] at hn; omega) (by omega) (by simp; omega)
      rw [List.append_assoc] at this
      unfold pnum
      rw [if_pos h]
      exact this
    · refine ev_neg (by omega) (ev_pos (by omega) (ev_some ?_))
      rw [Int.emod_eq_of_lt (by omega) (by omega)]
      unfold pnum
      rw [if_neg h]
theorem impl_putNum_ev (a : Int) : Ev (fun k => impl_PutNum.f k a) (putNum a) := by
  unfold impl_PutNum.f impl_within.f putNum
  by_cases h : 0 ≤ a ∧ a ≤ 2147483647
  · rw [if_pos h, if_pos h.1]
    obtain ⟨n, rfl⟩ := Int.eq_ofNat_of_zero_le h.1
    refine ev_bind0 rfl (ev_pos (by simp; omega) ?_)
    exact impl_putNum_at 4 n [] (by omega) (by omega) (by simp)
  · rw [if_neg h]
    by_cases h0 : 0 ≤ a
    · rw [if_pos h0]
      exact ev_bind0 rfl (ev_neg (by simp; omega) (ev_some rfl))
    · rw [if_neg h0]
      exact ev_bind0 rfl (ev_neg (by simp) (ev_some rfl))
theorem pnum_len (d : Nat) : ∀ i n, i ≤ d → 128 ^ i ≤ n → n < 128 ^ (i + 1) → (pnum d n).length = i + 1 := by
  induction d with
  | zero =>
    intro i n hi _ _
    obtain rfl : i = 0 := by omega
    rfl
  | succ d ih =>
    intro i n hi h0 h1
    unfold pnum
    cases i with
    | zero => rw [if_neg (by omega)]; rfl
    | succ i =>
      have hp : 0 < 128 ^ i := Nat.pow_pos (by omega)
      rw [Nat.pow_succ] at h0 h1
      rw [if_pos (by omega), List.length_cons, ih i (n / 128) (by omega) (by omega) (by omega)]
theorem pnum_short (d : Nat) : ∀ i n, n < 128 ^ (i + 1) → (pnum d n).length ≤ i + 1 := by
  induction d with
  | zero =>
    intro i n _
    simp [pnum]
  | succ d ih =>
    intro i n h1
    unfold pnum
    split
    · cases i with
      | zero => omega
      | succ i =>
        rw [Nat.pow_succ] at h1
        have := ih i (n / 128) (by omega)
        rw [List.length_cons]
        omega
    · simp
/-- The number that is read, from byte i of it on. -/
def gnum (xs : List Int) (a : Nat) : Nat → Nat → Nat → Int × Int × Bool
  | 0, _, _ => (0, 0, false)
  | d + 1, i, n =>
    if a + i < xs.length then
      if rd xs ((a + i : Nat) : Int) < 128 then
        if (0 < i ∧ rd xs ((a + i : Nat) : Int) = 0) ∨ n + (rd xs ((a + i : Nat) : Int)).toNat % 128 * 2 ^ (7 * i) > 2147483647 then (0, 0, false)
        else (((n + (rd xs ((a + i : Nat) : Int)).toNat % 128 * 2 ^ (7 * i) : Nat) : Int), ((a + i + 1 : Nat) : Int), true)
      else gnum xs a d (i + 1) (n + (rd xs ((a + i : Nat) : Int)).toNat % 128 * 2 ^ (7 * i))
    else (0, 0, false)
def getNum (xs : List Int) (a : Int) : Int × Int × Bool := if 0 ≤ a ∧ a < xs.length then gnum xs a.toNat 5 0 0 else (0, 0, false)
theorem put_fits (c i n : Nat) (hi : i < 5) (hn : n < 2 ^ (7 * i)) (hc : c < 128) :
    ((((putNum ((n + c * 2 ^ (7 * i) : Nat) : Int)).length : Int)) = ((i + 1 : Nat) : Int)) ↔ ¬ ((0 < i ∧ c = 0) ∨ n + c * 2 ^ (7 * i) > 2147483647) := by
  have e : 2 ^ (7 * i) = 128 ^ i := by rw [Nat.pow_mul]
  rw [e] at hn ⊢
  have hp : 0 < 128 ^ i := Nat.pow_pos (by omega)
  unfold putNum
  by_cases hb : n + c * 128 ^ i > 2147483647
  · rw [if_neg (by omega)]
    simp [hb]
    omega
  · rw [if_pos (by omega), Int.toNat_natCast]
    have h5 : n + c * 128 ^ i < 128 ^ (i + 1) := by
      rw [Nat.pow_succ]
      have : c * 128 ^ i ≤ 127 * 128 ^ i := Nat.mul_le_mul_right _ (by omega)
      omega
    by_cases h0 : 0 < i ∧ c = 0
    · obtain ⟨h0, rfl⟩ := h0
      obtain ⟨j, rfl⟩ : ∃ j, i = j + 1 := ⟨i - 1, by omega⟩
      have := pnum_short 4 j (n + 0 * 128 ^ (j + 1)) (by simpa using hn)
      constructor
      · intro h
        omega
      · intro h
        exact absurd (Or.inl ⟨h0, rfl⟩) h
    · by_cases hi0 : i = 0
      · subst hi0
        have := pnum_len 4 0 (n + c * 128 ^ 0)
        simp at hn
        subst hn
        unfold pnum
        rw [if_neg (by omega)]
        simp
        omega
      · have : 1 ≤ c := by omega
        have h1 : 1 * 128 ^ i ≤ c * 128 ^ i := Nat.mul_le_mul_right _ this
        rw [pnum_len 4 i _ (by omega) (by omega) h5]
        constructor
        · intro _ h
          omega
        · intro _
          rfl
theorem impl_getNum_at (xs : List Int) (hx : ∀ x ∈ xs, 0 ≤ x ∧ x ≤ 255) (hlen : xs.length ≤ 140737488351232) (a : Nat) (ha : a < xs.length) (d : Nat) : ∀ (i n : Nat), i + d = 5 → n < 2 ^ (7 * i) →
    Ev (fun k => impl_GetNum.l0 k xs (a : Int) (n : Int) (i : Int)) (gnum xs a d i n) := by
  induction d with
  | zero =>
    intro i n hi hn
    refine Ev.step (fun _ => rfl) ?_
    simp only [impl_GetNum.l0]
    refine ev_neg (by omega) ?_
    refine Ev.step (fun _ => rfl) ?_
    simp only [impl_GetNum.j1]
    exact ev_neg (by simp) (ev_some rfl)
  | succ d ih =>
    intro i n hi hn
    refine Ev.step (fun _ => rfl) ?_
    simp only [impl_GetNum.l0]
    refine ev_pos (by omega) ?_
    refine Ev.step (fun _ => rfl) ?_
    simp only [impl_GetNum.j1]
    have e0 : wrap64 ((a : Int) + (i : Int)) = ((a + i : Nat) : Int) := by rw [w64 (by omega) (by omega)]; omega
    rw [e0]
    unfold gnum
    by_cases hlt : a + i < xs.length
    · rw [if_pos hlt]
      have hr := rd_byte hx ((a + i : Nat) : Int)
      generalize rd xs ((a + i : Nat) : Int) = c at hr ⊢
      obtain ⟨c, rfl⟩ := Int.eq_ofNat_of_zero_le hr.1
      have hf := put_fits (c % 128) i n (by omega) hn (by omega)
      have hsv := seven n c i (by omega) hn
      have hw : (wrap64 (7 * (i : Int)) = ((7 * i : Nat) : Int)) ∧ (Int.tmod (c : Int) 128 = ((c % 128 : Nat) : Int)) ∧ (wrap64 ((i : Int) + 1) = ((i + 1 : Nat) : Int)) ∧ (wrap64 (((a + i : Nat) : Int) + 1) = ((a + i + 1 : Nat) : Int)) ∧ (wrap64 (c : Int) = (c : Int)) :=
        ⟨by rw [w64 (by omega) (by omega)]; omega, by rw [Int.tmod_eq_emod_of_nonneg (by omega)]; omega, by rw [w64 (by omega) (by omega)]; omega, by rw [w64 (by omega) (by omega)]; omega, w64 (by omega) (by omega)⟩
      obtain ⟨M, hM, e3, e4, e4', hlt2⟩ := hsv
      obtain ⟨e1, e2, e5, e6, e7⟩ := hw
      simp only [← hM, e1, e2, e3, e4, e5, e6, e7, Int.toNat_natCast]
      rw [← hM] at hf
      clear hM hn e1 e2 e3 e4 e4' e5 e6 e7
      refine ev_pos (by simp; omega) (ev_pos (by omega) (ev_pos (by omega) (ev_pos (by omega) ?_)))
      by_cases h8 : (c : Int) < 128
      · rw [if_pos h8]
        refine ev_pos h8 (Ev.bind (impl_putNum_ev _) ?_)
        have hc0 : (c : Int) = 0 ↔ c % 128 = 0 := by omega
        simp only [hc0]
        by_cases hz : (0 < i ∧ c % 128 = 0) ∨ n + M > 2147483647
        · rw [if_pos hz]
          exact ev_neg (by rw [hf]; simp only [hz, not_true_eq_false, not_false_eq_true]) (ev_some rfl)
        · rw [if_neg hz]
          exact ev_pos (hf.2 hz) (ev_some rfl)
      · rw [if_neg h8]
        refine ev_neg h8 ?_
        exact ih (i + 1) _ (by omega) (hlt2 _ rfl)
    · rw [if_neg hlt]
      exact ev_neg (by simp; omega) (ev_some rfl)
theorem impl_getNum_ev (xs : List Int) (hx : ∀ x ∈ xs, 0 ≤ x ∧ x ≤ 255) (hlen : xs.length ≤ 140737488351232) (a : Int) : Ev (fun k => impl_GetNum.f k xs a) (getNum xs a) := by
  unfold impl_GetNum.f impl_within.f getNum
  rw [w64 (by omega) (by omega)]
  by_cases h : 0 ≤ a ∧ a < xs.length
  · rw [if_pos h, if_pos h.1]
    obtain ⟨n, rfl⟩ := Int.eq_ofNat_of_zero_le h.1
    refine ev_bind0 rfl (ev_pos (by simp; omega) ?_)
    exact impl_getNum_at xs hx hlen n (by omega) 5 0 0 (by omega) (by omega)
  · rw [if_neg h]
    by_cases h0 : 0 ≤ a
    · rw [if_pos h0]
      exact ev_bind0 rfl (ev_neg (by simp; omega) (ev_some rfl))
    · rw [if_neg h0]
      exact ev_bind0 rfl (ev_neg (by simp) (ev_some rfl))
theorem spec_getNum_at (xs : List Int) (hx : ∀ x ∈ xs, 0 ≤ x ∧ x ≤ 255) (hlen : xs.length ≤ 140737488351232) (a : Nat) (ha : a < xs.length) (d : Nat) : ∀ (i n : Nat), i + d = 5 → n < 2 ^ (7 * i) →
    Ev (fun k => spec_GetNum.l0 k xs (a : Int) (n : Int) (i : Int)) (gnum xs a d i n) := by
  induction d with
  | zero =>
    intro i n hi hn
    refine Ev.step (fun _ => rfl) ?_
    simp only [spec_GetNum.l0]
    exact ev_neg (by omega) (ev_some rfl)
  | succ d ih =>
    intro i n hi hn
    refine Ev.step (fun _ => rfl) ?_
    simp only [spec_GetNum.l0]
    refine ev_pos (by omega) (ev_neg (by omega) ?_)
    refine Ev.step (fun _ => rfl) ?_
    simp only [spec_GetNum.j1]
    have e0 : wrap64 ((a : Int) + (i : Int)) = ((a + i : Nat) : Int) := by rw [w64 (by omega) (by omega)]; omega
    have e9 : wrap64 ((xs.length : Int) - (i : Int)) = (xs.length : Int) - (i : Int) := w64 (by omega) (by omega)
    rw [e0, e9]
    unfold gnum
    by_cases hlt : a + i < xs.length
    · rw [if_pos hlt]
      have hr := rd_byte hx ((a + i : Nat) : Int)
      generalize rd xs ((a + i : Nat) : Int) = c at hr ⊢
      obtain ⟨c, rfl⟩ := Int.eq_ofNat_of_zero_le hr.1
      have hsv := seven n c i (by omega) hn
      have hw : (wrap64 (7 * (i : Int)) = ((7 * i : Nat) : Int)) ∧ (Int.tmod (c : Int) 128 = ((c % 128 : Nat) : Int)) ∧ (wrap64 ((i : Int) + 1) = ((i + 1 : Nat) : Int)) ∧ (wrap64 (((a + i : Nat) : Int) + 1) = ((a + i + 1 : Nat) : Int)) ∧ (wrap64 (c : Int) = (c : Int)) :=
        ⟨by rw [w64 (by omega) (by omega)]; omega, by rw [Int.tmod_eq_emod_of_nonneg (by omega)]; omega, by rw [w64 (by omega) (by omega)]; omega, by rw [w64 (by omega) (by omega)]; omega, w64 (by omega) (by omega)⟩
      obtain ⟨M, hM, e3, e4, e4', hlt2⟩ := hsv
      obtain ⟨e1, e2, e5, e6, e7⟩ := hw
      simp only [← hM, e1, e2, e3, e4', e5, e6, e7, Int.toNat_natCast]
      clear hM hn e1 e2 e3 e4 e4' e5 e6 e7
      refine ev_neg (by simp; omega) (ev_pos (by omega) (ev_pos (by omega) (ev_pos (by omega) ?_)))
      by_cases h8 : (c : Int) < 128
      · rw [if_pos h8]
        refine ev_pos h8 ?_
        refine ev_if (fun hi0 => ?_) (fun hi0 => ?_)
        · refine ev_if (fun hc0 => ?_) (fun hc0 => ?_)
          · rw [if_pos (Or.inl ⟨by omega, hc0⟩)]
            exact ev_some rfl
          · refine ev_if (fun hb => ?_) (fun hb => ?_)
            · rw [if_pos (Or.inr (by omega))]
              exact ev_some rfl
            · rw [if_neg (by omega)]
              exact ev_some rfl
        · refine ev_if (fun hb => ?_) (fun hb => ?_)
          · rw [if_pos (Or.inr (by omega))]
            exact ev_some rfl
          · rw [if_neg (by omega)]
            exact ev_some rfl
      · rw [if_neg h8]
        refine ev_neg h8 ?_
        exact ih (i + 1) _ (by omega) (hlt2 _ rfl)
    · rw [if_neg hlt]
      exact ev_pos (by simp; omega) (ev_some rfl)
theorem spec_getNum_ev (xs : List Int) (hx : ∀ x ∈ xs, 0 ≤ x ∧ x ≤ 255) (hlen : xs.length ≤ 140737488351232) (a : Int) : Ev (fun k => spec_GetNum.f k xs a) (getNum xs a) := by
  unfold spec_GetNum.f getNum
  by_cases h : 0 ≤ a ∧ a < xs.length
  · rw [if_pos h]
    obtain ⟨n, rfl⟩ := Int.eq_ofNat_of_zero_le h.1
    exact spec_getNum_at xs hx hlen n (by omega) 5 0 0 (by omega) (by omega)
  · rw [if_neg h]
    refine Ev.step (fun _ => rfl) ?_
    simp only [spec_GetNum.l0]
    refine ev_pos (by omega) ?_
    have e9 : wrap64 ((xs.length : Int) - 0) = (xs.length : Int) := by rw [w64 (by omega) (by omega)]; omega
    refine ev_if (fun h0 => ?_) (fun h0 => ?_)
    · refine Ev.step (fun _ => rfl) ?_
      simp only [spec_GetNum.j1]
      exact ev_pos (by trivial) (ev_some rfl)
    · refine Ev.step (fun _ => rfl) ?_
      simp only [spec_GetNum.j1]
      exact ev_pos (by rw [e9]; simp; omega) (ev_some rfl)
/-! ### what the readers come to -/
theorem rdNums_add (N : Int → Int × Int × Bool) (n : Nat) : ∀ (m : Nat) (b : Bool) (a : Int), rdNums N (m + n) b a = ((rdNums N m b a).1 ++ (rdNums N n (rdNums N m b a).2.1 (rdNums N m b a).2.2).1, (rdNums N n (rdNums N m b a).2.1 (rdNums N m b a).2.2).2) := by
  intro m
  induction m with
  | zero => intro b a; simp [rdNums]
  | succ m ih =>
    intro b a
    rw [Nat.succ_add]
    cases b with
    | true => cases n <;> simp [rdNums]
    | false =>
      simp only [rdNums]
      rw [ih]
      simp
theorem rdNums_ok (N : Int → Int × Int × Bool) : ∀ (m : Nat) (b : Bool) (a : Int), (rdNums N m b a).2.1 = false → b = false ∧ (rdNums N m b a).1.length = m := by
  intro m
  induction m with
  | zero => intro b a h; exact ⟨h, rfl⟩
  | succ m ih =>
    intro b a h
    cases b with
    | true => simp [rdNums] at h
    | false =>
      simp only [rdNums] at h ⊢
      exact ⟨by trivial, by rw [List.length_cons, (ih _ _ h).2]⟩
theorem rdNums_one (N : Int → Int × Int × Bool) (b : Bool) (a : Int) : rdNums N 1 b a = (if b = true then [] else [rdV b (N a)], rdB b (N a), rdA b a (N a)) := by
  cases b with
  | true => simp [rdNums, rdB, rdA]
  | false => simp [rdNums]
theorem rdB_no {t : Int × Int × Bool} (h : t.2.2 = false) : rdB false t = true := by
  obtain ⟨n, q, ok⟩ := t
  cases ok with
  | false => rfl
  | true => cases h
theorem rd_yes {t : Int × Int × Bool} (a : Int) (h : t.2.2 = true) : rdV false t = t.1 ∧ rdB false t = false ∧ rdA false a t = t.2.1 := by
  obtain ⟨n, q, ok⟩ := t
  cases ok with
  | true => exact ⟨rfl, rfl, rfl⟩
  | false => cases h
/-- What the reference reads, of what the reader reads. -/
def l7R (out : List Int) (t : List Int × Bool × Int) : List Int × Int × Bool := if t.2.1 = true then ([], 0, false) else (out ++ t.1, t.2.2, true)
theorem l7R_no (N : Int → Int × Int × Bool) (d : Nat) (a : Int) (out : List Int) (h : (N a).2.2 = false) : l7R out (rdNums N (d + 1) false a) = ([], 0, false) := by
  have e : rdNums N (d + 1) false a = (rdV false (N a) :: (rdNums N d (rdB false (N a)) (rdA false a (N a))).1, (rdNums N d (rdB false (N a)) (rdA false a (N a))).2) := rfl
  have : (rdNums N d true (rdA false a (N a))).2.1 = true := by cases d <;> simp [rdNums]
  rw [e, rdB_no h]
  unfold l7R
  rw [if_pos this]
theorem l7R_yes (N : Int → Int × Int × Bool) (d : Nat) (a : Int) (out : List Int) (h : (N a).2.2 = true) : l7R out (rdNums N (d + 1) false a) = l7R (out ++ [(N a).1]) (rdNums N d false (N a).2.1) := by
  have e : rdNums N (d + 1) false a = (rdV false (N a) :: (rdNums N d (rdB false (N a)) (rdA false a (N a))).1, (rdNums N d (rdB false (N a)) (rdA false a (N a))).2) := rfl
  obtain ⟨r1, r2, r3⟩ := rd_yes a h
  rw [e, r1, r2, r3]
  unfold l7R
  simp only [List.append_assoc, List.singleton_append]
theorem spec_l7Get_at (xs : List Int) (hx : ∀ x ∈ xs, 0 ≤ x ∧ x ≤ 255) (hl : xs.length ≤ 140737488351232) (M : Nat) (hM : M ≤ 1000) (d : Nat) : ∀ (i : Nat) (a : Int) (out : List Int), i + d = M → out.length ≤ i →
    Ev (fun k => spec_l7Get.l0 k xs a (M : Int) out (i : Int)) (l7R out (rdNums (getNum xs) d false a)) := by
  induction d with
  | zero =>
    intro i a out hi ho
    refine Ev.step (fun _ => rfl) ?_
    simp only [spec_l7Get.l0]
    exact ev_neg (by omega) (ev_some (by simp [rdNums, l7R]))
  | succ d ih =>
    intro i a out hi ho
    refine Ev.step (fun _ => rfl) ?_
    simp only [spec_l7Get.l0]
    rw [wsucc (by omega)]
    refine ev_pos (by omega) (Ev.bind (spec_getNum_ev xs hx hl a) ?_)
    cases hok : (getNum xs a).2.2 with
    | false =>
      rw [l7R_no _ _ _ _ hok]
      exact ev_neg (by simp) (ev_some rfl)
    | true =>
      rw [l7R_yes _ _ _ _ hok]
      refine ev_pos (by trivial) (ev_pos (by omega) ?_)
      exact ih (i + 1) (getNum xs a).2.1 (out ++ [(getNum xs a).1]) (by omega) (by rw [List.length_append]; simp; omega)
theorem spec_l7Get_ev (xs : List Int) (hx : ∀ x ∈ xs, 0 ≤ x ∧ x ≤ 255) (hl : xs.length ≤ 140737488351232) : Ev (fun k => spec_l7Get.f k xs 0 28) (l7R [] (rdNums (getNum xs) 28 false 0)) :=
  spec_l7Get_at xs hx hl 28 (by omega) 28 0 0 [] (by omega) (by simp)
theorem impl_getNum_out (xs : List Int) (hl : xs.length ≤ 140737488351232) (a : Int) (h : ¬ (0 ≤ a ∧ a < xs.length)) (k : Nat) : impl_GetNum.f k xs a = some (getNum xs a) := by
  unfold impl_GetNum.f impl_within.f getNum
  rw [w64 (by omega) (by omega), if_neg h]
  by_cases h0 : 0 ≤ a
  · rw [if_pos h0, Option.bind_some, if_neg (by simp; omega)]
  · rw [if_neg h0, Option.bind_some, if_neg (by simp)]
/-- Enough rounds for all places at once. -/
theorem impl_getNum_all (xs : List Int) (hx : ∀ x ∈ xs, 0 ≤ x ∧ x ≤ 255) (hl : xs.length ≤ 140737488351232) : ∃ K, ∀ k, K ≤ k → ∀ a : Int, impl_GetNum.f k xs a = some (getNum xs a) := by
  have key : ∀ n : Nat, ∃ K, ∀ k, K ≤ k → ∀ a : Int, a < (n : Int) → impl_GetNum.f k xs a = some (getNum xs a) := by
    intro n
    induction n with
    | zero => exact ⟨0, fun k _ a ha => impl_getNum_out xs hl a (by omega) k⟩
    | succ n ih =>
      obtain ⟨K, hK⟩ := ih
      obtain ⟨K', hK'⟩ := impl_getNum_ev xs hx hl (n : Int)
      refine ⟨K + K', fun k hk a ha => ?_⟩
      by_cases e : a = (n : Int)
      · subst e
        exact hK' k (by omega)
      · exact hK k (by omega) a (by omega)
  obtain ⟨K, hK⟩ := key xs.length
  refine ⟨K, fun k hk a => ?_⟩
  by_cases h : a < (xs.length : Int)
  · exact hK k hk a h
  · exact impl_getNum_out xs hl a (by omega) k
/-- The readings, one behind the other: where none has gone wrong they are what the reference reads. -/
theorem chain {N : Int → Int × Int × Bool} {a1 a2 a3 a4 a5 a6 a7 a8 v1 v2 v3 v4 : Int} {b1 b2 b3 b4 b5 b6 b7 b8 : Bool} {l5 l6 l7 l8 : List Int}
    (q1 : rdV false (N 0) = v1 ∧ rdA false 0 (N 0) = a1 ∧ rdB false (N 0) = b1) (q2 : rdV b1 (N a1) = v2 ∧ rdA b1 a1 (N a1) = a2 ∧ rdB b1 (N a1) = b2) (q3 : rdV b2 (N a2) = v3 ∧ rdA b2 a2 (N a2) = a3 ∧ rdB b2 (N a2) = b3) (q4 : rdV b3 (N a3) = v4 ∧ rdA b3 a3 (N a3) = a4 ∧ rdB b3 (N a3) = b4)
    (q5 : rdNums N 8 b4 a4 = (l5, b5, a5)) (q6 : rdNums N 8 b5 a5 = (l6, b6, a6)) (q7 : rdNums N 4 b6 a6 = (l7, b7, a7)) (q8 : rdNums N 4 b7 a7 = (l8, b8, a8)) :
    (rdNums N 28 false 0).2 = (b8, a8) ∧ (b8 = false → (rdNums N 28 false 0).1 = v1 :: v2 :: v3 :: v4 :: (l5 ++ (l6 ++ (l7 ++ l8))) ∧ l5.length = 8 ∧ l6.length = 8 ∧ l7.length = 4 ∧ l8.length = 4) := by
  have e : rdNums N 28 false 0 = rdNums N (1 + (1 + (1 + (1 + (8 + (8 + (4 + 4))))))) false 0 := rfl
  rw [e]
  simp only [rdNums_add, rdNums_one]
  rw [q1.2.1, q1.2.2, q2.2.1, q2.2.2, q3.2.1, q3.2.2, q4.2.1, q4.2.2, q5]
  simp only
  rw [q6]
  simp only
  rw [q7]
  simp only
  rw [q8]
  refine ⟨rfl, fun hb => ?_⟩
  have r8 := rdNums_ok N 4 b7 a7 (by rw [q8]; exact hb)
  have r7 := rdNums_ok N 4 b6 a6 (by rw [q7]; exact r8.1)
  have r6 := rdNums_ok N 8 b5 a5 (by rw [q6]; exact r7.1)
  have r5 := rdNums_ok N 8 b4 a4 (by rw [q5]; exact r6.1)
  rw [q8] at r8
  rw [q7] at r7
  rw [q6] at r6
  rw [q5] at r5
  have f4 : b4 = false := r5.1
  have f3 : b3 = false := by
    cases b3 with
    | false => rfl
    | true => rw [f4] at q4; exact absurd q4.2.2 (by simp [rdB])
  have f2 : b2 = false := by
    cases b2 with
    | false => rfl
    | true => rw [f3] at q3; exact absurd q3.2.2 (by simp [rdB])
  have f1 : b1 = false := by
    cases b1 with
    | false => rfl
    | true => rw [f2] at q2; exact absurd q2.2.2 (by simp [rdB])
  rw [f1, f2, f3, if_neg (by decide), if_neg (by decide), if_neg (by decide), if_neg (by decide), q1.1]
  rw [f1] at q2
  rw [f2] at q3
  rw [f3] at q4
  rw [q2.1, q3.1, q4.1]
  exact ⟨rfl, r5.2, r6.2, r7.2, r8.2⟩
theorem toB_callD (k : Nat) {w : World} {v : Sl} {l : List Int} (u : Bd w v l) (he : laws_toByteS.f k l = some l) :
    Calls Try.prog 10 #[.slice v.A v.n v.c] w fun e w' => ∃ (v1 : Sl) (a b : Nat), e = .returned (.slice v1.A v1.n v1.c) ∧ By w' a b v1 l ∧ Made w w' a b ∧ Below w.heap.size w w' := by
  rw [u.e]
  refine (laws_toByteS.calls k _ _ l l w u.C u.le he).mono ?_
  rintro e w' ⟨v4, rfl, h4, hb⟩
  obtain ⟨v1, rfl, hs⟩ := By.of h4
  exact ⟨v1, _, _, rfl, hs, ⟨Nat.le_refl _, hb.size, Nat.le_refl _⟩, hb⟩
/-- What a call hands back: a sketch of its own, and whether it went well. -/
def SoOut (F : FuncId) (l : List Int) (c s lo hi : Int) (h r : List Int) (R : List (List Int)) (t : Bool) : Prop :=
  ∀ (W : World) (v : Sl), Bd W v l → Calls Try.prog F #[.slice v.A v.n v.c] W fun e w' => ∃ (x y z : Sl) (a b : Nat), e = .returned (.tuple #[.agg #[.int .i64 c, .int .i64 s, .int .i64 lo, .int .i64 hi, .slice x.A x.n x.c, .slice y.A y.n y.c, .slice z.A z.n z.c], .bool t]) ∧ Sk w' a b x y z h r R ∧ Made W w' a b ∧ Below W.heap.size W w'
set_option maxHeartbeats 8000000 in
theorem law0 (k : Nat) (M1 K1 c1 s1 lo1 hi1 : Int) (t : Bool) (A : Option Addr) (c : Nat) (l L1 h1 r1 : List Int) (R1 : List (List Int)) (w : World) (u : Bd w ⟨A, l.length, c⟩ l) (hL : decide ((l.length : Int) > 1048576) = false)
    (TB : Aside0 (laws_toByteS.f k l = some l)) (SP : Aside0 (SoOut 9 l c1 s1 lo1 hi1 h1 r1 R1 t)) (IM : Aside0 (SoOut 11 l c1 s1 lo1 hi1 h1 r1 R1 t))
    (EB : Aside0 (laws_eqByteS.f k l l = some true)) (EQ1 : Aside0 (laws_eqSketch.f k c1 s1 lo1 hi1 h1 r1 R1 c1 s1 lo1 hi1 h1 r1 R1 = some true)) (MB : Aside0 (laws_markByteS.f k l 1 = some (K1, L1))) (hK : decide (K1 < 0) = false)
    (MK : Aside0 (MkI k)) (LM1 : Aside0 ((1 : Int) + (h1.length : Int) + (r1.length : Int) + (lensII R1 : Nat) = M1 ∧ M1 ≤ 1073741824 ∧ h1.length ≤ 1048576 ∧ r1.length ≤ 1048576 ∧ R1.length ≤ 1048576 ∧ ∀ l ∈ R1, l.length ≤ 1048576)) (hM1 : decide (M1 < 0) = false)
    (HE : Aside0 (laws_heldSketch.f k c1 s1 lo1 hi1 (marksI 1 h1.length) (marksI (1 + (h1.length : Int)) r1.length) (marksII (1 + (h1.length : Int) + (r1.length : Int)) R1) 1 = some M1)) :
    Calls Try.prog 3 #[.slice A l.length c] w fun e w' => e = .returned (.bool true) ∧ Below w.heap.size w w' := by
  have U0 := Aside0.mk u
  have HB0 := Aside0.mk (Below.refl w.heap.size w)
  clear u
  go_enter Try.func3, Try.ntmps3
  go_wp2_with fail
  refine (toB_callD k (U0.out.below HB0.out) TB.out).mono ?_
  rintro e w1 ⟨v1, a1, b1, rfl, hs, hm, hb⟩
  have e1_1 := Aside0.mk hs
  clear hs
  have Z_2 := Aside0.mk hm
  clear hm
  unfold Made at Z_2
  have HB_3 := Aside0.mk (below_step HB0.out hb)
  have Z_4 := Aside0.mk (hb.size)
  clear HB0 hb
  go_wp2_with fail
  refine (SP.out _ _ e1_1.out.rd).mono ?_
  rintro e w2 ⟨x2, y2, z2, a2, b2, rfl, hs, hm, hb⟩
  have w0_5 := Aside0.mk hs
  clear hs
  have Z_6 := Aside0.mk hm
  clear hm
  unfold Made at Z_6
  have e1_7 := Aside0.mk (e1_1.out.below hb)
  have HB_8 := Aside0.mk (below_step HB_3.out hb)
  have Z_9 := Aside0.mk (hb.size)
  clear e1_1 HB_3 hb
  clear e1_7
  have w0_10 := Aside0.mk (w0_5.out.below (below_alloc (Below.refl _ w2) (.cells #[.int .i64 c1, .int .i64 s1, .int .i64 lo1, .int .i64 hi1, .slice x2.A x2.n x2.c, .slice y2.A y2.n y2.c, .slice z2.A z2.n z2.c] 26)))
  have HB_11 := Aside0.mk (below_step HB_8.out (below_alloc (Below.refl _ w2) (.cells #[.int .i64 c1, .int .i64 s1, .int .i64 lo1, .int .i64 hi1, .slice x2.A x2.n x2.c, .slice y2.A y2.n y2.c, .slice z2.A z2.n z2.c] 26)))
  have Z_12 := Aside0.mk (show (w2.alloc (.cells #[.int .i64 c1, .int .i64 s1, .int .i64 lo1, .int .i64 hi1, .slice x2.A x2.n x2.c, .slice y2.A y2.n y2.c, .slice z2.A z2.n z2.c] 26)).heap.size = w2.heap.size + 1 by simp)
  have bw0_13 := Aside0.mk (Bx.new w2 26 #[.int .i64 c1, .int .i64 s1, .int .i64 lo1, .int .i64 hi1, .slice x2.A x2.n x2.c, .slice y2.A y2.n y2.c, .slice z2.A z2.n z2.c])
  clear w0_5 HB_8
  go_wp2_with fail
  refine (toB_callD k (U0.out.below HB_11.out) TB.out).mono ?_
  rintro e w3 ⟨v3, a3, b3, rfl, hs, hm, hb⟩
  have x0_14 := Aside0.mk hs
  clear hs
  have Z_15 := Aside0.mk hm
  clear hm
  unfold Made at Z_15
  have w0_16 := Aside0.mk (w0_10.out.below hb)
  have bw0_17 := Aside0.mk (bw0_13.out.below hb)
  have HB_18 := Aside0.mk (below_step HB_11.out hb)
  have Z_19 := Aside0.mk (hb.size)
  clear w0_10 bw0_13 HB_11 hb
  go_wp2_with fail
  refine (IM.out _ _ x0_14.out.rd).mono ?_
  rintro e w4 ⟨x4, y4, z4, a4, b4, rfl, hs, hm, hb⟩
  have g0_20 := Aside0.mk hs
  clear hs
  have Z_21 := Aside0.mk hm
  clear hm
  unfold Made at Z_21
  have w0_22 := Aside0.mk (w0_16.out.below hb)
  have bw0_23 := Aside0.mk (bw0_17.out.below hb)
  have x0_24 := Aside0.mk (x0_14.out.below hb)
  have HB_25 := Aside0.mk (below_step HB_18.out hb)
  have Z_26 := Aside0.mk (hb.size)
  clear w0_16 bw0_17 x0_14 HB_18 hb
  have w0_27 := Aside0.mk (w0_22.out.below (below_alloc (Below.refl _ w4) (.cells #[.int .i64 c1, .int .i64 s1, .int .i64 lo1, .int .i64 hi1, .slice x4.A x4.n x4.c, .slice y4.A y4.n y4.c, .slice z4.A z4.n z4.c] 26)))
  have bw0_28 := Aside0.mk (bw0_23.out.below (below_alloc (Below.refl _ w4) (.cells #[.int .i64 c1, .int .i64 s1, .int .i64 lo1, .int .i64 hi1, .slice x4.A x4.n x4.c, .slice y4.A y4.n y4.c, .slice z4.A z4.n z4.c] 26)))
  have x0_29 := Aside0.mk (x0_24.out.below (below_alloc (Below.refl _ w4) (.cells #[.int .i64 c1, .int .i64 s1, .int .i64 lo1, .int .i64 hi1, .slice x4.A x4.n x4.c, .slice y4.A y4.n y4.c, .slice z4.A z4.n z4.c] 26)))
  have g0_30 := Aside0.mk (g0_20.out.below (below_alloc (Below.refl _ w4) (.cells #[.int .i64 c1, .int .i64 s1, .int .i64 lo1, .int .i64 hi1, .slice x4.A x4.n x4.c, .slice y4.A y4.n y4.c, .slice z4.A z4.n z4.c] 26)))
  have HB_31 := Aside0.mk (below_step HB_25.out (below_alloc (Below.refl _ w4) (.cells #[.int .i64 c1, .int .i64 s1, .int .i64 lo1, .int .i64 hi1, .slice x4.A x4.n x4.c, .slice y4.A y4.n y4.c, .slice z4.A z4.n z4.c] 26)))
  have Z_32 := Aside0.mk (show (w4.alloc (.cells #[.int .i64 c1, .int .i64 s1, .int .i64 lo1, .int .i64 hi1, .slice x4.A x4.n x4.c, .slice y4.A y4.n y4.c, .slice z4.A z4.n z4.c] 26)).heap.size = w4.heap.size + 1 by simp)
  have bg0_33 := Aside0.mk (Bx.new w4 26 #[.int .i64 c1, .int .i64 s1, .int .i64 lo1, .int .i64 hi1, .slice x4.A x4.n x4.c, .slice y4.A y4.n y4.c, .slice z4.A z4.n z4.c])
  clear w0_22 bw0_23 x0_24 g0_20 HB_25
  obtain ⟨bg033c0, bg033c1, bg033c2, bg033c3, bg033c4, bg033c5, bg033c6⟩ := bg0_33.out.cells
  obtain ⟨bw034c0, bw034c1, bw034c2, bw034c3, bw034c4, bw034c5, bw034c6⟩ := bw0_28.out.cells
  go_wp2_with fail
  clear bg033c0 bg033c1 bg033c2 bg033c3 bg033c4 bg033c5 bg033c6 bw034c0 bw034c1 bw034c2 bw034c3 bw034c4 bw034c5 bw034c6
  refine (eq_callD k c1 s1 lo1 hi1 g0_30.out.rd w0_27.out.rd EQ1.out).mono ?_
  rintro e w5 ⟨rfl, hb⟩
  have w0_36 := Aside0.mk (w0_27.out.below hb)
  have bw0_37 := Aside0.mk (bw0_28.out.below hb)
  have x0_38 := Aside0.mk (x0_29.out.below hb)
  have g0_39 := Aside0.mk (g0_30.out.below hb)
  have bg0_40 := Aside0.mk (bg0_33.out.below hb)
  have HB_41 := Aside0.mk (below_step HB_31.out hb)
  have Z_42 := Aside0.mk (hb.size)
  clear w0_27 bw0_28 x0_29 g0_30 bg0_33 HB_31 hb
  go_wp2_with fail
  refine (toB_callD k (U0.out.below HB_41.out) TB.out).mono ?_
  rintro e w6 ⟨v5, a5, b5, rfl, hs, hm, hb⟩
  have e5_43 := Aside0.mk hs
  clear hs
  have Z_44 := Aside0.mk hm
  clear hm
  unfold Made at Z_44
  have w0_45 := Aside0.mk (w0_36.out.below hb)
  have bw0_46 := Aside0.mk (bw0_37.out.below hb)
  have x0_47 := Aside0.mk (x0_38.out.below hb)
  have g0_48 := Aside0.mk (g0_39.out.below hb)
  have bg0_49 := Aside0.mk (bg0_40.out.below hb)
  have HB_50 := Aside0.mk (below_step HB_41.out hb)
  have Z_51 := Aside0.mk (hb.size)
  clear w0_36 bw0_37 x0_38 g0_39 bg0_40 HB_41 hb
  go_wp2_with fail
  refine (eqB_callD k x0_47.out.rd e5_43.out.rd EB.out).mono ?_
  rintro e w7 ⟨rfl, hb⟩
  have w0_52 := Aside0.mk (w0_45.out.below hb)
  have bw0_53 := Aside0.mk (bw0_46.out.below hb)
  have x0_54 := Aside0.mk (x0_47.out.below hb)
  have g0_55 := Aside0.mk (g0_48.out.below hb)
  have bg0_56 := Aside0.mk (bg0_49.out.below hb)
  have e5_57 := Aside0.mk (e5_43.out.below hb)
  have HB_58 := Aside0.mk (below_step HB_50.out hb)
  have Z_59 := Aside0.mk (hb.size)
  clear w0_45 bw0_46 x0_47 g0_48 bg0_49 e5_43 HB_50 hb
  clear e5_57
  go_wp2_with fail
  refine (markB_call k 1 K1 L1 x0_54.out (by have := Z_2.out; have := Z_4.out; have := Z_6.out; have := Z_9.out; have := Z_12.out; have := Z_15.out; have := Z_19.out; have := Z_21.out; have := Z_26.out; have := Z_32.out; have := Z_42.out; have := Z_44.out; have := Z_51.out; have := Z_59.out; omega) MB.out).mono ?_
  rintro e w8 ⟨rfl, hs, hk⟩
  have x0_60 := Aside0.mk hs
  clear hs
  clear x0_54
  have w0_61 := Aside0.mk (w0_52.out.kp hk (by have := Z_2.out; have := Z_4.out; have := Z_6.out; have := Z_9.out; have := Z_12.out; have := Z_15.out; have := Z_19.out; have := Z_21.out; have := Z_26.out; have := Z_32.out; have := Z_42.out; have := Z_44.out; have := Z_51.out; have := Z_59.out; omega))
  have bw0_62 := Aside0.mk (bw0_53.out.kp hk (by have := Z_2.out; have := Z_4.out; have := Z_6.out; have := Z_9.out; have := Z_12.out; have := Z_15.out; have := Z_19.out; have := Z_21.out; have := Z_26.out; have := Z_32.out; have := Z_42.out; have := Z_44.out; have := Z_51.out; have := Z_59.out; omega))
  have g0_63 := Aside0.mk (g0_55.out.kp hk (by have := Z_2.out; have := Z_4.out; have := Z_6.out; have := Z_9.out; have := Z_12.out; have := Z_15.out; have := Z_19.out; have := Z_21.out; have := Z_26.out; have := Z_32.out; have := Z_42.out; have := Z_44.out; have := Z_51.out; have := Z_59.out; omega))
  have bg0_64 := Aside0.mk (bg0_56.out.kp hk (by have := Z_2.out; have := Z_4.out; have := Z_6.out; have := Z_9.out; have := Z_12.out; have := Z_15.out; have := Z_19.out; have := Z_21.out; have := Z_26.out; have := Z_32.out; have := Z_42.out; have := Z_44.out; have := Z_51.out; have := Z_59.out; omega))
  have HB_65 := Aside0.mk (below_kp HB_58.out hk (by have := Z_2.out; have := Z_4.out; have := Z_6.out; have := Z_9.out; have := Z_12.out; have := Z_15.out; have := Z_19.out; have := Z_21.out; have := Z_26.out; have := Z_32.out; have := Z_42.out; have := Z_44.out; have := Z_51.out; have := Z_59.out; omega) HB_58.out.size)
  have Z_66 := Aside0.mk (hk.kept.1)
  clear w0_52 bw0_53 g0_55 bg0_56 HB_58 hk
  obtain ⟨bg066c0, bg066c1, bg066c2, bg066c3, bg066c4, bg066c5, bg066c6⟩ := bg0_64.out.cells
  obtain ⟨bw067c0, bw067c1, bw067c2, bw067c3, bw067c4, bw067c5, bw067c6⟩ := bw0_62.out.cells
  go_wp2_with fail
  clear bg066c0 bg066c1 bg066c2 bg066c3 bg066c4 bg066c5 bg066c6 bw067c0 bw067c1 bw067c2 bw067c3 bw067c4 bw067c5 bw067c6
  refine (eq_callD k c1 s1 lo1 hi1 g0_63.out.rd w0_61.out.rd EQ1.out).mono ?_
  rintro e w9 ⟨rfl, hb⟩
  have w0_69 := Aside0.mk (w0_61.out.below hb)
  have bw0_70 := Aside0.mk (bw0_62.out.below hb)
  have g0_71 := Aside0.mk (g0_63.out.below hb)
  have bg0_72 := Aside0.mk (bg0_64.out.below hb)
  have x0_73 := Aside0.mk (x0_60.out.below hb)
  have HB_74 := Aside0.mk (below_step HB_65.out hb)
  have Z_75 := Aside0.mk (hb.size)
  clear w0_61 bw0_62 g0_63 bg0_64 x0_60 HB_65 hb
  obtain ⟨bg075c0, bg075c1, bg075c2, bg075c3, bg075c4, bg075c5, bg075c6⟩ := bg0_72.out.cells
  go_wp2_with fail
  clear bg075c0 bg075c1 bg075c2 bg075c3 bg075c4 bg075c5 bg075c6
  refine (mark_callM k MK c1 s1 lo1 hi1 1 M1 g0_71.out (by have := Z_2.out; have := Z_4.out; have := Z_6.out; have := Z_9.out; have := Z_12.out; have := Z_15.out; have := Z_19.out; have := Z_21.out; have := Z_26.out; have := Z_32.out; have := Z_42.out; have := Z_44.out; have := Z_51.out; have := Z_59.out; have := Z_66.out; have := Z_75.out; omega) (by have := Z_2.out; have := Z_4.out; have := Z_6.out; have := Z_9.out; have := Z_12.out; have := Z_15.out; have := Z_19.out; have := Z_21.out; have := Z_26.out; have := Z_32.out; have := Z_42.out; have := Z_44.out; have := Z_51.out; have := Z_59.out; have := Z_66.out; have := Z_75.out; omega) (by omega) LM1).mono ?_
  rintro e w10 ⟨rfl, hs, hk⟩
  have g0_77 := Aside0.mk hs
  clear hs
  clear g0_71
  have w0_78 := Aside0.mk (w0_69.out.kp hk (by have := Z_2.out; have := Z_4.out; have := Z_6.out; have := Z_9.out; have := Z_12.out; have := Z_15.out; have := Z_19.out; have := Z_21.out; have := Z_26.out; have := Z_32.out; have := Z_42.out; have := Z_44.out; have := Z_51.out; have := Z_59.out; have := Z_66.out; have := Z_75.out; omega))
  have bw0_79 := Aside0.mk (bw0_70.out.kp hk (by have := Z_2.out; have := Z_4.out; have := Z_6.out; have := Z_9.out; have := Z_12.out; have := Z_15.out; have := Z_19.out; have := Z_21.out; have := Z_26.out; have := Z_32.out; have := Z_42.out; have := Z_44.out; have := Z_51.out; have := Z_59.out; have := Z_66.out; have := Z_75.out; omega))
  have bg0_80 := Aside0.mk (bg0_72.out.kp hk (by have := Z_2.out; have := Z_4.out; have := Z_6.out; have := Z_9.out; have := Z_12.out; have := Z_15.out; have := Z_19.out; have := Z_21.out; have := Z_26.out; have := Z_32.out; have := Z_42.out; have := Z_44.out; have := Z_51.out; have := Z_59.out; have := Z_66.out; have := Z_75.out; omega))
  have x0_81 := Aside0.mk (x0_73.out.kp hk (by have := Z_2.out; have := Z_4.out; have := Z_6.out; have := Z_9.out; have := Z_12.out; have := Z_15.out; have := Z_19.out; have := Z_21.out; have := Z_26.out; have := Z_32.out; have := Z_42.out; have := Z_44.out; have := Z_51.out; have := Z_59.out; have := Z_66.out; have := Z_75.out; omega))
  have HB_82 := Aside0.mk (below_kp HB_74.out hk (by have := Z_2.out; have := Z_4.out; have := Z_6.out; have := Z_9.out; have := Z_12.out; have := Z_15.out; have := Z_19.out; have := Z_21.out; have := Z_26.out; have := Z_32.out; have := Z_42.out; have := Z_44.out; have := Z_51.out; have := Z_59.out; have := Z_66.out; have := Z_75.out; omega) HB_74.out.size)
  have Z_83 := Aside0.mk (hk.kept.1)
  clear w0_69 bw0_70 bg0_72 x0_73 HB_74 hk
  obtain ⟨bg083c0, bg083c1, bg083c2, bg083c3, bg083c4, bg083c5, bg083c6⟩ := bg0_80.out.cells
  go_wp2_with fail
  clear bg083c0 bg083c1 bg083c2 bg083c3 bg083c4 bg083c5 bg083c6
  refine (held_callD k c1 s1 lo1 hi1 1 M1 g0_77.out.rd HE.out).mono ?_
  rintro e w11 ⟨rfl, hb⟩
  have w0_85 := Aside0.mk (w0_78.out.below hb)
  have bw0_86 := Aside0.mk (bw0_79.out.below hb)
  have bg0_87 := Aside0.mk (bg0_80.out.below hb)
  have x0_88 := Aside0.mk (x0_81.out.below hb)
  have g0_89 := Aside0.mk (g0_77.out.below hb)
  have HB_90 := Aside0.mk (below_step HB_82.out hb)
  have Z_91 := Aside0.mk (hb.size)
  clear w0_78 bw0_79 bg0_80 x0_81 g0_77 HB_82 hb
  go_wp2_with fail
  refine (toB_callD k (U0.out.below HB_90.out) TB.out).mono ?_
  rintro e w12 ⟨v6, a6, b6, rfl, hs, hm, hb⟩
  have e6_92 := Aside0.mk hs
  clear hs
  have Z_93 := Aside0.mk hm
  clear hm
  unfold Made at Z_93
  have w0_94 := Aside0.mk (w0_85.out.below hb)
  have bw0_95 := Aside0.mk (bw0_86.out.below hb)
  have bg0_96 := Aside0.mk (bg0_87.out.below hb)
  have x0_97 := Aside0.mk (x0_88.out.below hb)
  have g0_98 := Aside0.mk (g0_89.out.below hb)
  have HB_99 := Aside0.mk (below_step HB_90.out hb)
  have Z_100 := Aside0.mk (hb.size)
  clear w0_85 bw0_86 bg0_87 x0_88 g0_89 HB_90 hb
  go_wp2_with fail
  refine (IM.out _ _ e6_92.out.rd).mono ?_
  rintro e w13 ⟨x7, y7, z7, a7, b7, rfl, hs, hm, hb⟩
  have h0_101 := Aside0.mk hs
  clear hs
  have Z_102 := Aside0.mk hm
  clear hm
  unfold Made at Z_102
  have w0_103 := Aside0.mk (w0_94.out.below hb)
  have bw0_104 := Aside0.mk (bw0_95.out.below hb)
  have bg0_105 := Aside0.mk (bg0_96.out.below hb)
  have x0_106 := Aside0.mk (x0_97.out.below hb)
  have g0_107 := Aside0.mk (g0_98.out.below hb)
  have e6_108 := Aside0.mk (e6_92.out.below hb)
  have HB_109 := Aside0.mk (below_step HB_99.out hb)
  have Z_110 := Aside0.mk (hb.size)
  clear w0_94 bw0_95 bg0_96 x0_97 g0_98 e6_92 HB_99 hb
  clear e6_108
  have w0_111 := Aside0.mk (w0_103.out.below (below_alloc (Below.refl _ w13) (.cells #[.int .i64 c1, .int .i64 s1, .int .i64 lo1, .int .i64 hi1, .slice x7.A x7.n x7.c, .slice y7.A y7.n y7.c, .slice z7.A z7.n z7.c] 26)))
  have bw0_112 := Aside0.mk (bw0_104.out.below (below_alloc (Below.refl _ w13) (.cells #[.int .i64 c1, .int .i64 s1, .int .i64 lo1, .int .i64 hi1, .slice x7.A x7.n x7.c, .slice y7.A y7.n y7.c, .slice z7.A z7.n z7.c] 26)))
  have bg0_113 := Aside0.mk (bg0_105.out.below (below_alloc (Below.refl _ w13) (.cells #[.int .i64 c1, .int .i64 s1, .int .i64 lo1, .int .i64 hi1, .slice x7.A x7.n x7.c, .slice y7.A y7.n y7.c, .slice z7.A z7.n z7.c] 26)))
  have x0_114 := Aside0.mk (x0_106.out.below (below_alloc (Below.refl _ w13) (.cells #[.int .i64 c1, .int .i64 s1, .int .i64 lo1, .int .i64 hi1, .slice x7.A x7.n x7.c, .slice y7.A y7.n y7.c, .slice z7.A z7.n z7.c] 26)))
  have g0_115 := Aside0.mk (g0_107.out.below (below_alloc (Below.refl _ w13) (.cells #[.int .i64 c1, .int .i64 s1, .int .i64 lo1, .int .i64 hi1, .slice x7.A x7.n x7.c, .slice y7.A y7.n y7.c, .slice z7.A z7.n z7.c] 26)))
  have h0_116 := Aside0.mk (h0_101.out.below (below_alloc (Below.refl _ w13) (.cells #[.int .i64 c1, .int .i64 s1, .int .i64 lo1, .int .i64 hi1, .slice x7.A x7.n x7.c, .slice y7.A y7.n y7.c, .slice z7.A z7.n z7.c] 26)))
  have HB_117 := Aside0.mk (below_step HB_109.out (below_alloc (Below.refl _ w13) (.cells #[.int .i64 c1, .int .i64 s1, .int .i64 lo1, .int .i64 hi1, .slice x7.A x7.n x7.c, .slice y7.A y7.n y7.c, .slice z7.A z7.n z7.c] 26)))
  have Z_118 := Aside0.mk (show (w13.alloc (.cells #[.int .i64 c1, .int .i64 s1, .int .i64 lo1, .int .i64 hi1, .slice x7.A x7.n x7.c, .slice y7.A y7.n y7.c, .slice z7.A z7.n z7.c] 26)).heap.size = w13.heap.size + 1 by simp)
  have bh0_119 := Aside0.mk (Bx.new w13 26 #[.int .i64 c1, .int .i64 s1, .int .i64 lo1, .int .i64 hi1, .slice x7.A x7.n x7.c, .slice y7.A y7.n y7.c, .slice z7.A z7.n z7.c])
  clear w0_103 bw0_104 bg0_105 x0_106 g0_107 h0_101 HB_109
  obtain ⟨bh0119c0, bh0119c1, bh0119c2, bh0119c3, bh0119c4, bh0119c5, bh0119c6⟩ := bh0_119.out.cells
  obtain ⟨bw0120c0, bw0120c1, bw0120c2, bw0120c3, bw0120c4, bw0120c5, bw0120c6⟩ := bw0_112.out.cells
  go_wp2_with fail
  clear bh0119c0 bh0119c1 bh0119c2 bh0119c3 bh0119c4 bh0119c5 bh0119c6 bw0120c0 bw0120c1 bw0120c2 bw0120c3 bw0120c4 bw0120c5 bw0120c6
  refine (eq_callD k c1 s1 lo1 hi1 h0_116.out.rd w0_111.out.rd EQ1.out).mono ?_
  rintro e w14 ⟨rfl, hb⟩
  have w0_122 := Aside0.mk (w0_111.out.below hb)
  have bw0_123 := Aside0.mk (bw0_112.out.below hb)
  have bg0_124 := Aside0.mk (bg0_113.out.below hb)
  have x0_125 := Aside0.mk (x0_114.out.below hb)
  have g0_126 := Aside0.mk (g0_115.out.below hb)
  have h0_127 := Aside0.mk (h0_116.out.below hb)
  have bh0_128 := Aside0.mk (bh0_119.out.below hb)
  have HB_129 := Aside0.mk (below_step HB_117.out hb)
  have Z_130 := Aside0.mk (hb.size)
  clear w0_111 bw0_112 bg0_113 x0_114 g0_115 h0_116 bh0_119 HB_117 hb
  obtain ⟨bg0130c0, bg0130c1, bg0130c2, bg0130c3, bg0130c4, bg0130c5, bg0130c6⟩ := bg0_124.out.cells
  go_wp2_with fail
  clear bg0130c0 bg0130c1 bg0130c2 bg0130c3 bg0130c4 bg0130c5 bg0130c6
  refine (held_callD k c1 s1 lo1 hi1 1 M1 g0_126.out.rd HE.out).mono ?_
  rintro e w15 ⟨rfl, hb⟩
  have w0_132 := Aside0.mk (w0_122.out.below hb)
  have bw0_133 := Aside0.mk (bw0_123.out.below hb)
  have bg0_134 := Aside0.mk (bg0_124.out.below hb)
  have x0_135 := Aside0.mk (x0_125.out.below hb)
  have g0_136 := Aside0.mk (g0_126.out.below hb)
  have h0_137 := Aside0.mk (h0_127.out.below hb)
  have bh0_138 := Aside0.mk (bh0_128.out.below hb)
  have HB_139 := Aside0.mk (below_step HB_129.out hb)
  have Z_140 := Aside0.mk (hb.size)
  clear w0_122 bw0_123 bg0_124 x0_125 g0_126 h0_127 bh0_128 HB_129 hb
  go_wp2
  go_ret
  exact ⟨rfl, HB_139.out⟩

set_option maxHeartbeats 8000000 in
theorem law1 (A : Option Addr) (c : Nat) (l : List Int) (w : World) (hL : decide ((l.length : Int) > 1048576) = true) :
    Calls Try.prog 3 #[.slice A l.length c] w fun e w' => e = .returned (.bool true) ∧ Below w.heap.size w w' := by
  have HB0 := Aside0.mk (Below.refl w.heap.size w)
  go_enter Try.func3, Try.ntmps3
  go_wp2
  go_ret
  exact ⟨rfl, HB0.out⟩

theorem so_sk_of {w : World} {c s lo hi : Int} {h r : List Int} {R : List (List Int)} {t : Bool} {e : Ending} {w' : World} (o : SkOut w c s lo hi h r R t e w') : ∃ (x y z : Sl) (a b : Nat), e = .returned (.tuple #[.agg #[.int .i64 c, .int .i64 s, .int .i64 lo, .int .i64 hi, .slice x.A x.n x.c, .slice y.A y.n y.c, .slice z.A z.n z.c], .bool t]) ∧ Sk w' a b x y z h r R ∧ Made w w' a b ∧ Below w.heap.size w w' := o
/-- Both texts come to the same. -/
theorem both (l : List Int) (hx : ∀ x ∈ l, 0 ≤ x ∧ x ≤ 255) (hl : l.length ≤ 140737488351232) : ∃ c s lo hi h r R t, SoOut 9 l c s lo hi h r R t ∧ SoOut 11 l c s lo hi h r R t ∧ h.length ≤ 8 ∧ r.length ≤ 8 ∧ R.length ≤ 2 ∧ lensII R ≤ 8 ∧ ∀ x ∈ R, x.length ≤ 4 := by
  obtain ⟨K1, hK1⟩ := impl_getNum_all l hx hl
  obtain ⟨K2, hK2⟩ := spec_l7Get_ev l hx hl
  obtain ⟨v1, a1, b1, q1⟩ : ∃ v1 a1 b1, rdV false (getNum l 0) = v1 ∧ rdA false 0 (getNum l 0) = a1 ∧ rdB false (getNum l 0) = b1 := ⟨_, _, _, rfl, rfl, rfl⟩
  obtain ⟨v2, a2, b2, q2⟩ : ∃ v2 a2 b2, rdV b1 (getNum l a1) = v2 ∧ rdA b1 a1 (getNum l a1) = a2 ∧ rdB b1 (getNum l a1) = b2 := ⟨_, _, _, rfl, rfl, rfl⟩
  obtain ⟨v3, a3, b3, q3⟩ : ∃ v3 a3 b3, rdV b2 (getNum l a2) = v3 ∧ rdA b2 a2 (getNum l a2) = a3 ∧ rdB b2 (getNum l a2) = b3 := ⟨_, _, _, rfl, rfl, rfl⟩
  obtain ⟨v4, a4, b4, q4⟩ : ∃ v4 a4 b4, rdV b3 (getNum l a3) = v4 ∧ rdA b3 a3 (getNum l a3) = a4 ∧ rdB b3 (getNum l a3) = b4 := ⟨_, _, _, rfl, rfl, rfl⟩
  obtain ⟨l5, b5, a5, q5⟩ : ∃ l5 b5 a5, rdNums (getNum l) 8 b4 a4 = (l5, b5, a5) := ⟨_, _, _, rfl⟩
  obtain ⟨l6, b6, a6, q6⟩ : ∃ l6 b6 a6, rdNums (getNum l) 8 b5 a5 = (l6, b6, a6) := ⟨_, _, _, rfl⟩
  obtain ⟨l7, b7, a7, q7⟩ : ∃ l7 b7 a7, rdNums (getNum l) 4 b6 a6 = (l7, b7, a7) := ⟨_, _, _, rfl⟩
  obtain ⟨l8, b8, a8, q8⟩ : ∃ l8 b8 a8, rdNums (getNum l) 4 b7 a7 = (l8, b8, a8) := ⟨_, _, _, rfl⟩
  obtain ⟨f2, f1⟩ := chain q1 q2 q3 q4 q5 q6 q7 q8
  obtain ⟨ns, hns⟩ : ∃ ns, (rdNums (getNum l) 28 false 0).1 = ns := ⟨_, rfl⟩
  rw [show rdNums (getNum l) 28 false 0 = (ns, b8, a8) from Prod.ext hns f2] at hK2
  rw [hns] at f1
  cases b8 with
  | true =>
    refine ⟨0, 0, 0, 0, [], [], [], false, fun W v u => ?_, fun W v u => ?_, by simp, by simp, by simp, by simp [lensII], by simp⟩
    · rw [u.e]
      exact (spec_SketchOf.bad K2 (c := v.c) [] 0 ⟨u.C⟩ ⟨u.le⟩ ⟨hK2 K2 (Nat.le_refl _)⟩).mono (fun _ _ o => so_sk_of o)
    · rw [u.e]
      exact (impl_SketchOf.bad K1 (c := v.c) (getNum l) a1 a2 a3 a4 a5 a6 a7 a8 v1 v2 v3 v4 b1 b2 b3 b4 b5 b6 b7 l5 l6 l7 l8 ⟨q1⟩ ⟨q2⟩ ⟨q3⟩ ⟨q4⟩ ⟨q5⟩ ⟨q6⟩ ⟨q7⟩ ⟨u.C⟩ ⟨u.le⟩ ⟨fun a => hK1 K1 (Nat.le_refl _) a⟩ ⟨q8⟩).mono (fun _ _ o => so_sk_of o)
  | false =>
    obtain ⟨e1, n5, n6, n7, n8⟩ := f1 rfl
    by_cases ha : a8 = (l.length : Int)
    · subst ha
      obtain ⟨K3, hK3⟩ := spec_sketchOk_ev v1 v2 v3 v4 l5 l6 [l7, l8]
      obtain ⟨K4, hK4⟩ := impl_sketchOk_ev v1 v2 v3 v4 l5 l6 [l7, l8]
      have hln : ns.length = 28 := by rw [e1]; simp only [List.length_cons, List.length_append]; omega
      have t12 : (ns.take 12).drop 4 = l5 := by
        rw [e1]
        simp only [List.take_succ_cons, List.drop_succ_cons, List.drop_zero]
        rw [List.take_append_of_le_length (by omega), List.take_of_length_le (by omega)]
      have t20 : (ns.take 20).drop 12 = l6 := by
        rw [e1]
        simp only [List.take_succ_cons, List.drop_succ_cons, List.drop_zero]
        rw [List.take_append, List.drop_append, List.drop_of_length_le (by rw [List.length_take]; omega), List.nil_append, List.length_take, show 8 - min 16 l5.length = 0 by omega, List.drop_zero, n5, List.take_append_of_le_length (by omega), List.take_of_length_le (by omega)]
      have t24 : (ns.take 24).drop 20 = l7 := by
        rw [e1]
        simp only [List.take_succ_cons, List.drop_succ_cons, List.drop_zero]
        rw [List.take_append, List.drop_append, List.drop_of_length_le (by rw [List.length_take]; omega), List.nil_append, List.length_take, show 16 - min 20 l5.length = 8 by omega, n5, List.take_append, List.drop_append, List.drop_of_length_le (by rw [List.length_take]; omega), List.nil_append, List.length_take, show 8 - min (20 - 8) l6.length = 0 by omega, List.drop_zero, n6, List.take_append_of_le_length (by omega), List.take_of_length_le (by omega)]
      have t28 : ns.drop 24 = l8 := by
        rw [e1]
        simp only [List.drop_succ_cons]
        rw [List.drop_append, List.drop_of_length_le (by omega), List.nil_append, List.drop_append, List.drop_of_length_le (by omega), List.nil_append, List.drop_append, List.drop_of_length_le (by omega), List.nil_append, n5, n6, n7]
        rfl
      have g0 : ns.getD 0 0 = v1 ∧ ns.getD 1 0 = v2 ∧ ns.getD 2 0 = v3 ∧ ns.getD 3 0 = v4 := by rw [e1]; exact ⟨rfl, rfl, rfl, rfl⟩
      have k2 := hK2 (K1 + K2 + K3 + K4) (by omega)
      have k3 := hK3 (K1 + K2 + K3 + K4) (by omega)
      have k4 := hK4 (K1 + K2 + K3 + K4) (by omega)
      have k1 := hK1 (K1 + K2 + K3 + K4) (by omega)
      cases e9 : skOk v1 v2 v3 v4 l5 l6 [l7, l8] with
      | true =>
        rw [e9] at k3 k4
        refine ⟨v1, v2, v3, v4, l5, l6, [l7, l8], true, fun W v u => ?_, fun W v u => ?_, by omega, by omega, by simp, by simp [lensII]; omega, by intro x hx; simp at hx; rcases hx with rfl | rfl <;> omega⟩
        · rw [u.e]
          exact (spec_SketchOf.yes _ (c := v.c) ns ⟨u.C⟩ ⟨u.le⟩ ⟨k2⟩ ⟨hln⟩ v1 v2 v3 v4 l5 l6 l7 l8 ⟨n5, n6, n7, n8⟩ ⟨g0.1, g0.2.1, g0.2.2.1, g0.2.2.2, t12, t20, t24, t28⟩ ⟨k3⟩).mono (fun _ _ o => so_sk_of o)
        · rw [u.e]
          exact (impl_SketchOf.yes _ (c := v.c) (getNum l) a1 a2 a3 a4 a5 a6 a7 0 v1 v2 v3 v4 b1 b2 b3 b4 b5 b6 b7 l5 l6 l7 l8 ⟨q1⟩ ⟨q2⟩ ⟨q3⟩ ⟨q4⟩ ⟨q5⟩ ⟨q6⟩ ⟨q7⟩ ⟨u.C⟩ ⟨u.le⟩ ⟨k1⟩ ⟨q8⟩ ⟨n5, n6, n7, n8⟩ ⟨k4⟩).mono (fun _ _ o => so_sk_of o)
      | false =>
        rw [e9] at k3 k4
        refine ⟨0, 0, 0, 0, [], [], [], false, fun W v u => ?_, fun W v u => ?_, by simp, by simp, by simp, by simp [lensII], by simp⟩
        · rw [u.e]
          exact (spec_SketchOf.no _ (c := v.c) ns ⟨u.C⟩ ⟨u.le⟩ ⟨k2⟩ ⟨hln⟩ v1 v2 v3 v4 l5 l6 l7 l8 ⟨n5, n6, n7, n8⟩ ⟨g0.1, g0.2.1, g0.2.2.1, g0.2.2.2, t12, t20, t24, t28⟩ ⟨k3⟩).mono (fun _ _ o => so_sk_of o)
        · rw [u.e]
          exact (impl_SketchOf.no _ (c := v.c) (getNum l) a1 a2 a3 a4 a5 a6 a7 0 v1 v2 v3 v4 b1 b2 b3 b4 b5 b6 b7 l5 l6 l7 l8 ⟨q1⟩ ⟨q2⟩ ⟨q3⟩ ⟨q4⟩ ⟨q5⟩ ⟨q6⟩ ⟨q7⟩ ⟨u.C⟩ ⟨u.le⟩ ⟨k1⟩ ⟨q8⟩ ⟨n5, n6, n7, n8⟩ ⟨k4⟩).mono (fun _ _ o => so_sk_of o)
    · refine ⟨0, 0, 0, 0, [], [], [], false, fun W v u => ?_, fun W v u => ?_, by simp, by simp, by simp, by simp [lensII], by simp⟩
      · rw [u.e]
        exact (spec_SketchOf.far K2 (c := v.c) ns a8 ⟨u.C⟩ ⟨u.le⟩ ⟨hK2 K2 (Nat.le_refl _)⟩ ⟨ha⟩).mono (fun _ _ o => so_sk_of o)
      · rw [u.e]
        exact (impl_SketchOf.far K1 (c := v.c) (getNum l) a1 a2 a3 a4 a5 a6 a7 a8 v1 v2 v3 v4 b1 b2 b3 b4 b5 b6 b7 l5 l6 l7 l8 ⟨q1⟩ ⟨q2⟩ ⟨q3⟩ ⟨q4⟩ ⟨q5⟩ ⟨q6⟩ ⟨q7⟩ ⟨u.C⟩ ⟨u.le⟩ ⟨fun a => hK1 K1 (Nat.le_refl _) a⟩ ⟨q8⟩ ⟨ha⟩).mono (fun _ _ o => so_sk_of o)
theorem law (A : Option Addr) (c : Nat) (l : List Int) (w : World) (C : (Kd.int .u8).C w A l.length l) (lc : l.length ≤ c) (hg : l.length ≤ 9223372036854775807 ∧ ∀ x ∈ l, (0 ≤ x ∧ x ≤ 255)) :
    Calls Try.prog 3 #[.slice A l.length c] w fun e w' => e = .returned (.bool true) ∧ Below w.heap.size w w' := by
  by_cases hb : (l.length : Int) > 1048576
  · exact law1 A c l w (decide_eq_true hb)
  · obtain ⟨c1, s1, lo1, hi1, h1, r1, R1, t, SP, IM, n1, n2, n3, n4, n5⟩ := both l hg.2 (by omega)
    have n6 : ∀ x ∈ R1, x.length ≤ 1048576 := fun x hx => Nat.le_trans (n5 x hx) (by omega)
    obtain ⟨K1, e1⟩ := toByteS_ev l (by omega)
    obtain ⟨K2, e2⟩ := eqByteS_ev l (by omega)
    obtain ⟨K3, e3⟩ := eqSketch_ev c1 s1 lo1 hi1 h1 r1 R1 (by omega) (by omega) (by omega) n6
    obtain ⟨K4, e4⟩ := markByteS_ev l 1 (by omega)
    obtain ⟨K5, e5⟩ := heldSketch_ev c1 s1 lo1 hi1 1 h1.length r1.length R1 (by omega) (by omega) (by omega) (by omega) (by omega) n6
    generalize hK : K1 + K2 + K3 + K4 + K5 + 1048577 = k
    have q1 := e1 k (by omega)
    have q2 := e2 k (by omega)
    have q3 := e3 k (by omega)
    have q4 := e4 k (by omega)
    have q5 := e5 k (by omega)
    have q6 : MkI k := mkI k (by omega)
    have d1 : decide ((l.length : Int) > 1048576) = false := decide_eq_false hb
    have d2 : decide (((1 + l.length : Nat) : Int) < 0) = false := decide_eq_false (by omega)
    have d3 : decide ((1 : Int) + (h1.length : Int) + (r1.length : Int) + (lensII R1 : Nat) < 0) = false := decide_eq_false (by omega)
    have L := law0 k ((1 : Int) + (h1.length : Int) + (r1.length : Int) + (lensII R1 : Nat)) ((1 + l.length : Nat) : Int) c1 s1 lo1 hi1 t A c l (marks8 1 l.length) h1 r1 R1 w ⟨rfl, lc, C⟩ d1 ⟨q1⟩ ⟨SP⟩ ⟨IM⟩ ⟨q2⟩ ⟨q3⟩ ⟨q4⟩ d2 ⟨q6⟩ ⟨rfl, by omega, by omega, by omega, by omega, n6⟩ d3 ⟨q5⟩
    exact L

end Go.Proofs.Ytfknjoebomicnaa.HFnExactSketchOf
