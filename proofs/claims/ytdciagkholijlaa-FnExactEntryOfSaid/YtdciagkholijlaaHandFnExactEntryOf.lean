/- EntryOf of the program is EntryOf of the reference, for all arguments; it leaves its argument as it was, and hands back memory of its own; the law is walked by hand. -/
import Derived.Test.YtdciagkholijlaaPFnExactEntryOfx10
import Derived.Test.YtdciagkholijlaaPFnExactEntryOfx4
import Derived.Test.YtdciagkholijlaaPFnExactEntryOfx7
import Derived.Test.YtdciagkholijlaaPFnExactEntryOfx8
import Derived.Test.YtdciagkholijlaaPFnExactEntryOfx9
import Derived.Test.YtdciagkholijlaaAid
import Derived.WalkKit
import Derived.Deep.RegionHeld3
namespace Go.Proofs.Ytdciagkholijlaa.HFnExactEntryOf
open Go.RowKit Go.Proofs.Ytdciagkholijlaa.PFnExactEntryOf Go.Proofs.YtdciagkholijlaaW.PrintWords Go.Proofs.YtdciagkholijlaaW.PrintLast Go.Proofs.YtdciagkholijlaaW.PrintMore Go.Proofs.Ytdciagkholijlaa.Aid
set_option linter.unusedVariables false
set_option linter.unusedSimpArgs false

structure Sl where
  A : Option Addr
  n : Nat
  c : Nat
def Rk (w : World) (a b : Nat) (x y z : Sl) (h r : List Int) (R : List (List Int)) : Prop :=
  Kd.R (Kd.int .i64) 3 w a (fun k => k < b) (.slice x.A x.n x.c) h ∧ Kd.R (Kd.int .i64) 3 w a (fun k => k < b) (.slice y.A y.n y.c) r ∧ Kd.N (Kd.slice 3 (Kd.int .i64)) 24 w a (fun k => a ≤ k ∧ k < b) (.slice z.A z.n z.c) R
def Sk (w : World) (a b : Nat) (x y z : Sl) (h r : List Int) (R : List (List Int)) : Prop :=
  Kd.R (Kd.int .i64) 3 w a (fun k => k < b) (.slice x.A x.n x.c) h ∧ Kd.R (Kd.int .i64) 3 w a (fun k => k < b ∧ some k ≠ (Value.slice x.A x.n x.c).ownBlock) (.slice y.A y.n y.c) r ∧
  Kd.S (Kd.slice 3 (Kd.int .i64)) 24 w a (fun k => k < b ∧ some k ≠ (Value.slice x.A x.n x.c).ownBlock ∧ some k ≠ (Value.slice y.A y.n y.c).ownBlock) (.slice z.A z.n z.c) R
section
variable {w w1 w' W : World} {a b a' b' : Nat} {x y z x' y' z' : Sl} {h r h' r' : List Int} {R R' : List (List Int)}
theorem Sk.rk (s : Sk w a b x y z h r R) : Rk w a b x y z h r R :=
  ⟨s.1, Kd.R_mono s.2.1 (fun _ hk => hk.1), Kd.S_N (Kd.S_mono (Kd.S_bound s.2.2) (fun _ hk => ⟨hk.2.1, hk.1.1⟩))⟩
theorem Rk.step (s : Rk w a b x y z h r R) (hm : ∀ k, a ≤ k → k < b → k < w.heap.size → w1.heap[k]? = w.heap[k]?) : Rk w1 a b x y z h r R :=
  ⟨Kd.R_mono (Kd.R_move (Kd.R_bound s.1) (fun k hk => hm k hk.2.1 hk.1 hk.2.2.1)) (fun _ hk => hk.1), Kd.R_mono (Kd.R_move (Kd.R_bound s.2.1) (fun k hk => hm k hk.2.1 hk.1 hk.2.2.1)) (fun _ hk => hk.1), Kd.N_step s.2.2 (fun k hk hl => hm k hk.1 hk.2 hl)⟩
theorem Sk.step (s : Sk w a b x y z h r R) (hm : ∀ k, a ≤ k → k < b → k < w.heap.size → w1.heap[k]? = w.heap[k]?) : Sk w1 a b x y z h r R :=
  ⟨Kd.R_mono (Kd.R_move (Kd.R_bound s.1) (fun k hk => hm k hk.2.1 hk.1 hk.2.2.1)) (fun _ hk => hk.1), Kd.R_mono (Kd.R_move (Kd.R_bound s.2.1) (fun k hk => hm k hk.2.1 hk.1.1 hk.2.2.1)) (fun _ hk => hk.1), Kd.S_mono (Kd.S_move (Kd.S_bound s.2.2) (fun k hk => hm k hk.2.1 hk.1.1 hk.2.2.1)) (fun _ hk => hk.1)⟩
theorem Rk.below (s : Rk w a b x y z h r R) (hb : Below w.heap.size w w1) : Rk w1 a b x y z h r R := s.step (fun k _ _ hl => hb.block k hl)
theorem Sk.below (s : Sk w a b x y z h r R) (hb : Below w.heap.size w w1) : Sk w1 a b x y z h r R := s.step (fun k _ _ hl => hb.block k hl)
structure Kp (w w' : World) (a b : Nat) : Prop where
  os : w'.os = w.os
  tape : w'.tape = w.tape
  output : w'.output = w.output
  kept : Kept w w' (fun k => a ≤ k ∧ k < b)
theorem Kp.refl (w : World) (a b : Nat) : Kp w w a b := ⟨rfl, rfl, rfl, Kept.refl _ _⟩
theorem Kp.trans (h : Kp w w1 a b) (k : Kp w1 w' a b) : Kp w w' a b := ⟨k.os.trans h.os, k.tape.trans h.tape, k.output.trans h.output, h.kept.then_ k.kept (fun _ hk => .inl hk)⟩
theorem Kp.below (h : Kp w w1 a b) (k : Below w1.heap.size w1 w') : Kp w w' a b := ⟨k.os.trans h.os, k.tape.trans h.tape, k.output.trans h.output, h.kept.below k⟩
theorem Kp.of (h : Below w.heap.size w w1) : Kp w w1 a b := (Kp.refl w a b).below h
theorem below_kp {B : Nat} (h : Below B W w) (k : Kp w w1 a b) (hB : B ≤ a) (hS : B ≤ w.heap.size) : Below B W w1 :=
  ⟨k.os.trans h.os, k.tape.trans h.tape, k.output.trans h.output, Nat.le_trans h.size k.kept.1, fun i hi => (k.kept.2 i (Nat.lt_of_lt_of_le hi hS) (fun hs => by omega)).trans (h.block i hi)⟩
theorem Rk.kp (s : Rk w a' b' x y z h r R) (k : Kp w w1 a b) (ha : b ≤ a' ∨ b' ≤ a) : Rk w1 a' b' x y z h r R := s.step (fun i h1 h2 h3 => k.kept.2 i h3 (fun hs => by omega))
theorem Sk.kp (s : Sk w a' b' x y z h r R) (k : Kp w w1 a b) (ha : b ≤ a' ∨ b' ≤ a) : Sk w1 a' b' x y z h r R := s.step (fun i h1 h2 h3 => k.kept.2 i h3 (fun hs => by omega))
theorem Rk.reads (s : Rk w a b x y z h r R) : x.n = h.length ∧ y.n = r.length ∧ z.n = R.length ∧ x.n ≤ x.c ∧ y.n ≤ y.c ∧ z.n ≤ z.c ∧ (Kd.int .i64).C w x.A h.length h ∧ (Kd.int .i64).C w y.A r.length r ∧ (Kd.slice 3 (Kd.int .i64)).C w z.A R.length R := by
  obtain ⟨h1, h2, h3⟩ := Kd.R_reads' s.1
  obtain ⟨h4, h5, h6⟩ := Kd.R_reads' s.2.1
  obtain ⟨h7, h8, h9⟩ := Kd.N_reads' s.2.2
  exact ⟨h1, h4, h7, h2, h5, h8, h3, h6, h9⟩
def Bx (w : World) (g t : Nat) (cs : Array Value) : Prop := w.heap[g]? = some (.cells cs t (0, 0))
theorem Bx.lt {g t : Nat} {cs : Array Value} (hb : Bx w g t cs) : g < w.heap.size := blk_lt hb
theorem Bx.below {g t : Nat} {cs : Array Value} (hb : Bx w g t cs) (k : Below w.heap.size w w1) : Bx w1 g t cs := blk_below hb k
theorem Bx.kp {g t : Nat} {cs : Array Value} (hb : Bx w g t cs) (k : Kp w w1 a b) (hg : g < a ∨ b ≤ g) : Bx w1 g t cs := (k.kept.2 g hb.lt (fun hs => by omega)).trans hb
theorem Bx.new (w : World) (t : Nat) (cs : Array Value) : Bx (w.alloc (.cells cs t)) w.heap.size t cs := blk_new w _
theorem Bx.cells {g t : Nat} {v0 v1 v2 v3 v4 v5 v6 : Value} (hb : Bx w g t #[v0, v1, v2, v3, v4, v5, v6]) :
    w.cell? ⟨g, 0, none⟩ = some v0 ∧ w.cell? ⟨g, 1, none⟩ = some v1 ∧ w.cell? ⟨g, 2, none⟩ = some v2 ∧ w.cell? ⟨g, 3, none⟩ = some v3 ∧ w.cell? ⟨g, 4, none⟩ = some v4 ∧ w.cell? ⟨g, 5, none⟩ = some v5 ∧ w.cell? ⟨g, 6, none⟩ = some v6 :=
  ⟨blk_cell hb 0, blk_cell hb 1, blk_cell hb 2, blk_cell hb 3, blk_cell hb 4, blk_cell hb 5, blk_cell hb 6⟩
end
structure Rd (w : World) (x y z : Sl) (h r : List Int) (R : List (List Int)) : Prop where
  e4 : x.n = h.length
  e5 : y.n = r.length
  e6 : z.n = R.length
  l4 : h.length ≤ x.c
  l5 : r.length ≤ y.c
  l6 : R.length ≤ z.c
  C4 : (Kd.int .i64).C w x.A h.length h
  C5 : (Kd.int .i64).C w y.A r.length r
  C6 : (Kd.slice 3 (Kd.int .i64)).C w z.A R.length R
section
variable {w w1 w' W : World} {a b a' b' : Nat} {x y z x' y' z' : Sl} {h r h' r' : List Int} {R R' : List (List Int)}
theorem Rd.below (s : Rd w x y z h r R) (hb : Below w.heap.size w w1) : Rd w1 x y z h r R := ⟨s.e4, s.e5, s.e6, s.l4, s.l5, s.l6, Kd.C_below s.C4 hb, Kd.C_below s.C5 hb, Kd.C_below s.C6 hb⟩
theorem Rk.rd (s : Rk w a b x y z h r R) : Rd w x y z h r R := by
  obtain ⟨e1, e2, e3, l1, l2, l3, C1, C2, C3⟩ := s.reads
  exact ⟨e1, e2, e3, by omega, by omega, by omega, C1, C2, C3⟩
theorem Sk.rd (s : Sk w a b x y z h r R) : Rd w x y z h r R := s.rk.rd
end
def By (w : World) (a b : Nat) (v : Sl) (l : List Int) : Prop := Kd.R (Kd.int .u8) 5 w a (fun k => k < b) (.slice v.A v.n v.c) l
structure Bd (w : World) (v : Sl) (l : List Int) : Prop where
  e : v.n = l.length
  le : l.length ≤ v.c
  C : (Kd.int .u8).C w v.A l.length l
section
variable {w w1 : World} {a b a' b' : Nat} {v : Sl} {l : List Int}
theorem By.step (s : By w a b v l) (hm : ∀ k, a ≤ k → k < b → k < w.heap.size → w1.heap[k]? = w.heap[k]?) : By w1 a b v l := Kd.R_mono (Kd.R_move (Kd.R_bound s) (fun k hk => hm k hk.2.1 hk.1 hk.2.2.1)) (fun _ hk => hk.1)
theorem By.below (s : By w a b v l) (hb : Below w.heap.size w w1) : By w1 a b v l := s.step (fun k _ _ hl => hb.block k hl)
theorem By.kp (s : By w a' b' v l) (k : Kp w w1 a b) (ha : b ≤ a' ∨ b' ≤ a) : By w1 a' b' v l := s.step (fun i h1 h2 h3 => k.kept.2 i h3 (fun hs => by omega))
theorem By.rd (s : By w a b v l) : Bd w v l := by
  obtain ⟨h1, h2, h3⟩ := Kd.R_reads' s
  exact ⟨h1, by omega, h3⟩
theorem Bd.below (s : Bd w v l) (hb : Below w.heap.size w w1) : Bd w1 v l := ⟨s.e, s.le, Kd.C_below s.C hb⟩
theorem By.of {base : Nat} {ok : Nat → Prop} {u : Value} (h : Kd.R (Kd.int .u8) 5 w base ok u l) : ∃ v : Sl, u = .slice v.A v.n v.c ∧ By w base w.heap.size v l := by
  obtain ⟨A, c, rfl⟩ := Kd.R_slice h
  exact ⟨⟨A, _, c⟩, rfl, Kd.R_mono (Kd.R_bound h) (fun _ hk => hk.2.2.1)⟩
end
def Made (w w' : World) (a b : Nat) : Prop := w.heap.size ≤ a ∧ a ≤ b ∧ b ≤ w'.heap.size
section
variable {w' : World} {base : Nat} {ok4 ok5 ok6 : Nat → Prop} {v4 v5 v6 : Value} {h r : List Int} {R : List (List Int)}
theorem Rk.of (h4 : Kd.R (Kd.int .i64) 3 w' base ok4 v4 h) (h5 : Kd.R (Kd.int .i64) 3 w' base ok5 v5 r) (h6 : Kd.N (Kd.slice 3 (Kd.int .i64)) 24 w' base ok6 v6 R) (hok : ∀ k, ok6 k → base ≤ k) :
    ∃ x y z : Sl, v4 = .slice x.A x.n x.c ∧ v5 = .slice y.A y.n y.c ∧ v6 = .slice z.A z.n z.c ∧ Rk w' base w'.heap.size x y z h r R := by
  obtain ⟨A4, c4, rfl⟩ := Kd.R_slice h4
  obtain ⟨A5, c5, rfl⟩ := Kd.R_slice h5
  obtain ⟨A6, c6, rfl, _⟩ := Kd.N_reads h6
  exact ⟨⟨A4, _, c4⟩, ⟨A5, _, c5⟩, ⟨A6, _, c6⟩, rfl, rfl, rfl, Kd.R_mono (Kd.R_bound h4) (fun _ hk => hk.2.2.1), Kd.R_mono (Kd.R_bound h5) (fun _ hk => hk.2.2.1), Kd.N_mono (Kd.N_bound h6) (fun k hk => ⟨hok k hk.1, hk.2⟩)⟩
theorem Sk.of (h4 : Kd.R (Kd.int .i64) 3 w' base ok4 v4 h) (h5 : Kd.R (Kd.int .i64) 3 w' base ok5 v5 r) (h6 : Kd.S (Kd.slice 3 (Kd.int .i64)) 24 w' base ok6 v6 R) (hok5 : ∀ k, ok5 k → some k ≠ v4.ownBlock) (hok6 : ∀ k, ok6 k → some k ≠ v4.ownBlock ∧ some k ≠ v5.ownBlock) :
    ∃ x y z : Sl, v4 = .slice x.A x.n x.c ∧ v5 = .slice y.A y.n y.c ∧ v6 = .slice z.A z.n z.c ∧ Sk w' base w'.heap.size x y z h r R := by
  obtain ⟨A4, c4, rfl⟩ := Kd.R_slice h4
  obtain ⟨A5, c5, rfl⟩ := Kd.R_slice h5
  obtain ⟨A6, c6, rfl⟩ := Kd.S_slice h6
  exact ⟨⟨A4, _, c4⟩, ⟨A5, _, c5⟩, ⟨A6, _, c6⟩, rfl, rfl, rfl, Kd.R_mono (Kd.R_bound h4) (fun _ hk => hk.2.2.1), Kd.R_mono (Kd.R_bound h5) (fun k hk => ⟨hk.2.2.1, hok5 k hk.1⟩), Kd.S_mono (Kd.S_bound h6) (fun k hk => ⟨hk.2.2.1, hok6 k hk.1⟩)⟩
end
def marksI (k : Int) (n : Nat) : List Int := (List.range n).map fun j : Nat => k + (j : Int)
theorem marksI_length (k : Int) (n : Nat) : (marksI k n).length = n := by simp [marksI]
theorem marksI_get (k : Int) (n i : Nat) (h : i < (marksI k n).length) : (marksI k n)[i] = k + (i : Int) := by simp [marksI]
def marksII : Int → List (List Int) → List (List Int)
  | _, [] => []
  | k, l :: ls => marksI k l.length :: marksII (k + (l.length : Int)) ls
def lensII : List (List Int) → Nat
  | [] => 0
  | l :: ls => l.length + lensII ls
theorem marksII_length (ls : List (List Int)) : ∀ k, (marksII k ls).length = ls.length := by
  induction ls with
  | nil => intro k; rfl
  | cons l ls ih => intro k; simp [marksII, ih]
theorem lensII_take (ls : List (List Int)) : ∀ i, (h : i < ls.length) → lensII (ls.take (i + 1)) = lensII (ls.take i) + ls[i].length := by
  induction ls with
  | nil => intro i h; simp at h
  | cons l ls ih =>
    intro i h
    cases i with
    | zero => simp [lensII]
    | succ i =>
      have := ih i (by simpa using h)
      simp only [List.take_succ_cons, lensII, List.getElem_cons_succ]
      omega
theorem lensII_le (ls : List (List Int)) : ∀ i, lensII (ls.take i) ≤ lensII ls := by
  induction ls with
  | nil => intro i; simp [lensII]
  | cons l ls ih =>
    intro i
    cases i with
    | zero => simp [lensII]
    | succ i => have := ih i; simp only [List.take_succ_cons, lensII]; omega
theorem marksII_get (ls : List (List Int)) : ∀ (k : Int) (i : Nat) (h : i < ls.length), (marksII k ls)[i]'(by rw [marksII_length]; exact h) = marksI (k + (lensII (ls.take i) : Nat)) ls[i].length := by
  induction ls with
  | nil => intro k i h; simp at h
  | cons l ls ih =>
    intro k i h
    cases i with
    | zero => simp [marksII, lensII]
    | succ i =>
      have := ih (k + (l.length : Int)) i (by simpa using h)
      simp only [marksII, List.getElem_cons_succ, this, List.take_succ_cons, lensII]
      congr 1
      omega
theorem marksII_set (ls : List (List Int)) (k : Int) (i : Nat) (h : i < ls.length) : ((marksII k ls).take i ++ ls.drop i).set i (marksI (k + (lensII (ls.take i) : Nat)) ls[i].length) = (marksII k ls).take (i + 1) ++ ls.drop (i + 1) := by
  have hl : ((marksII k ls).take i).length = i := by rw [List.length_take, marksII_length]; omega
  rw [List.set_append_right _ _ (by omega), hl, Nat.sub_self, List.drop_eq_getElem_cons h, List.set_cons_zero, List.take_succ_eq_append_getElem (by rw [marksII_length]; exact h), marksII_get ls k i h, List.append_assoc]
  rfl
theorem markI_call (k : Nat) {w : World} {a b : Nat} {v : Value} {l : List Int} {ok : Nat → Prop} (k0 : Int) (u : Kd.R (Kd.int .i64) 3 w a ok v l) (hok : ∀ k, ok k → k < b) (ha : a ≤ w.heap.size) (he : laws_markIntS.f k l k0 = some (k0 + (l.length : Int), marksI k0 l.length)) :
    Calls Try.prog 82 #[v, .int .i64 k0] w fun e w' => e = .returned (.int .i64 (k0 + (l.length : Int))) ∧ Kd.R (Kd.int .i64) 3 w' a ok v (marksI k0 l.length) ∧ Kp w w' a b ∧ Kept w w' (fun k => some k = v.ownBlock) := by
  obtain ⟨w0, hw0, hB⟩ : ∃ w0 : World, w0.heap.size = a ∧ Below a w0 w := by
    refine ⟨{ w with heap := w.heap.extract 0 a }, by simp; omega, ⟨rfl, rfl, rfl, by simp; omega, fun i hi => ?_⟩⟩
    simp [Array.getElem?_extract]
    omega
  subst hw0
  have u1 : Kd.R (Kd.int .i64) 3 w w0.heap.size (fun k => some k = v.ownBlock) v l := Kd.R_tight rfl u
  refine (laws_markIntS.calls k (fun k => some k = v.ownBlock) v l k0 _ _ w0 w hB u1 he).mono ?_
  rintro e w' ⟨rfl, hr, hb, hk⟩
  refine ⟨rfl, Kd.R_reok rfl hr (fun k hk => u.1 k hk), ⟨hb.os.trans hB.os.symm, hb.tape.trans hB.tape.symm, hb.output.trans hB.output.symm, hk.mono (fun i hi => ⟨Kd.R_base u i hi.symm, hok i (u.1 i hi.symm)⟩)⟩, hk⟩
set_option maxHeartbeats 4000000 in
theorem markII_call (k : Nat) (hm : Aside0 (∀ (l : List Int) (k0 : Int), l.length ≤ 1048576 → 0 ≤ k0 → k0 ≤ 1073741824 → laws_markIntS.f k l k0 = some (k0 + (l.length : Int), marksI k0 l.length))) {w : World} {a b : Nat} {z : Sl} {R : List (List Int)} {ok : Nat → Prop} (k0 : Int) (u : Kd.S (Kd.slice 3 (Kd.int .i64)) 24 w a ok (.slice z.A z.n z.c) R) (hok : ∀ k, ok k → k < b) (ha : a ≤ w.heap.size)
    (hk0 : 0 ≤ k0) (hkb : k0 + (lensII R : Nat) ≤ 1073741824) (hR : R.length ≤ 1048576) (hl : ∀ l ∈ R, l.length ≤ 1048576) :
    Calls Try.prog 83 #[.slice z.A z.n z.c, .int .i64 k0] w fun e w' => e = .returned (.int .i64 (k0 + (lensII R : Nat))) ∧ Kd.S (Kd.slice 3 (Kd.int .i64)) 24 w' a ok (.slice z.A z.n z.c) (marksII k0 R) ∧ Kp w w' a b ∧ Kept w w' ok := by
  have hzn : z.n = R.length := (Kd.S_reads' u).1
  have HZ := Aside0.mk hzn
  have HL := Aside0.mk hl
  have HOK := Aside0.mk hok
  have U := Aside0.mk u
  have HR := Aside0.mk hR
  have HB := Aside0.mk hkb
  have HA := Aside0.mk ha
  have hzm : z.n ≤ 1048576 := by omega
  clear hzn hl hok u hR hkb ha
  go_enter Try.func83, Try.ntmps83
  go_wp2
  go_loopg [1, 5] z.n (fun gg s1 s5 wr => ∃ i : Nat, i ≤ z.n ∧ z.n - i ≤ gg ∧ s5 = .int .i64 i ∧ s1 = .int .i64 (k0 + (lensII (R.take i) : Nat)) ∧ Aside0 (Kd.S (Kd.slice 3 (Kd.int .i64)) 24 wr a ok (.slice z.A z.n z.c) ((marksII k0 R).take i ++ R.drop i)) ∧ Aside0 (Kp w wr a b) ∧ Aside0 (Kept w wr ok))
  case atStart => exact ⟨0, Nat.zero_le _, by omega, rfl, by simp [lensII], ⟨by simpa using U.out⟩, ⟨Kp.refl _ _ _⟩, ⟨Kept.refl _ _⟩⟩
  case round =>
    obtain ⟨i, hi, hg, rfl, rfl, S, KP, KT⟩ := hrel
    have lk := lensII_le R i
    have lk' : k0 + (lensII (R.take i) : Nat) ≤ 1073741824 := by have := HB.out; omega
    by_cases hlt : i < z.n
    · have hltz : (i : Int) < (z.n : Int) := by omega
      have hiR : i < R.length := by have := HZ.out; omega
      have hcl : ((marksII k0 R).take i ++ R.drop i).length = R.length := by rw [List.length_append, List.length_take, List.length_drop, marksII_length]; omega
      obtain ⟨g, cap, hv, hbg, hgs, _⟩ := Kd.S_form S.out (by rw [hcl]; omega)
      injection hv with hA hn hc
      have S2 := S.out
      rw [hA] at S2
      obtain ⟨oki, c, hcl2, hM, hcell, hoki, hH⟩ := Kd.S_lend S2 ([] : List Int) (i : Int) (by omega) (by omega)
      obtain ⟨v, rfl, hRv⟩ := hM
      have hget : ((marksII k0 R).take i ++ R.drop i).getD (i : Int).toNat [] = R[i] := by
        rw [Int.toNat_natCast, List.getD_eq_getElem?_getD, List.getElem?_append_right (by rw [List.length_take, marksII_length]; omega), List.length_take, marksII_length, Nat.min_eq_left (by omega), Nat.sub_self, List.drop_eq_getElem_cons hiR]
        rfl
      rw [hget] at hRv
      have hc0 := hcell 0 v rfl
      simp only [Int.toNat_natCast, Kd.slice, Nat.mul_one, Nat.add_zero] at hc0
      obtain ⟨A1, c1, rfl⟩ := Kd.R_slice hRv
      have hl1 : R[i].length ≤ 1048576 := HL.out _ (List.getElem_mem hiR)
      have hcall := markI_call (b := b) k (k0 + (lensII (R.take i) : Nat)) hRv (fun q hq => HOK.out q (hoki q hq).1) (Nat.le_trans HA.out KT.out.1) (hm.out _ _ hl1 (by omega) lk')
      have hts := lensII_take R i hiR
      have hset := marksII_set R k0 i hiR
      have HH := Aside0.mk hH
      have HRV := Aside0.mk hRv
      have HOI := Aside0.mk hoki
      have HTS := Aside0.mk hts
      have HSET := Aside0.mk hset
      have HAA := Aside0.mk hA
      clear hcell hcl2 hget hH hRv hoki hts hset S S2 hn hc hA hcl
      have hAz : z.A = some ⟨g, 0, none⟩ := HAA.out
      generalize hzA : z.A = zA at *
      subst hAz
      go_wp2_with (go_at_call 82; refine hcall.mono ?_; rintro e w' ⟨rfl, hr2, hkp, hkt⟩; have HR2 := Aside0.mk hr2; have HKP := Aside0.mk hkp; have HKT := Aside0.mk hkt; clear hr2 hkp hkt)
      go_roundg (z.n - (i + 1))
      case measure => omega
      case rel =>
        refine ⟨i + 1, by omega, by omega, by go_num, by rw [HTS.out]; congr 1; omega, ⟨?_⟩, ⟨KP.out.trans HKP.out⟩, ⟨?_⟩⟩
        · have h1 := Kd.H_kept HH.out HKT.out (fun q hq hn hs => hn (HRV.out.1 q hs.symm))
          have h2 := Kd.H_back h1 (x' := marksI (k0 + (lensII (R.take i) : Nat)) R[i].length) (okp := oki) ⟨_, rfl, HR2.out⟩ (fun _ hq => hq)
          rw [Int.toNat_natCast, HSET.out] at h2
          exact h2
        · exact KT.out.then_ HKT.out (fun q hq => .inl (HOI.out q (HRV.out.1 q hq.symm)).1)
    · have hltz : ¬ (i : Int) < (z.n : Int) := by omega
      have hiz : i = R.length := by have := HZ.out; omega
      have S2 := S.out
      rw [hiz, List.drop_length, List.append_nil, List.take_of_length_le (by rw [marksII_length]; exact Nat.le_refl _)] at S2
      have ht : R.take i = R := by rw [hiz, List.take_length]
      rw [ht]
      have SS := Aside0.mk S2
      clear S2 ht hiz
      go_wp2
      go_ret
      exact ⟨rfl, SS.out, KP.out, KT.out⟩
theorem row_kept {w w' : World} {a e : Nat} {ok S : Nat → Prop} {v : Value} {l : List Int} (u : Kd.R (Kd.int .i64) e w a ok v l) (hk : Kept w w' S) (hne : ∀ k, v.ownBlock = some k → ¬ S k) : Kd.R (Kd.int .i64) e w' a ok v l :=
  Kd.R_reok rfl (Kd.R_kept (Kd.R_tight rfl u) hk (fun k hk' => hne k hk'.symm)) (fun k hk' => u.1 k hk')
def MkI (k : Nat) : Prop := ∀ (l : List Int) (k0 : Int), l.length ≤ 1048576 → 0 ≤ k0 → k0 ≤ 1073741824 → laws_markIntS.f k l k0 = some (k0 + (l.length : Int), marksI k0 l.length)
set_option maxHeartbeats 4000000 in
theorem mark_call (k : Nat) (hm : Aside0 (MkI k)) {w : World} {a b : Nat} {x y z : Sl} {h r : List Int} {R : List (List Int)} (c s mn mx k0 : Int) (u : Sk w a b x y z h r R) (ha : a ≤ w.heap.size) (hb : b ≤ w.heap.size)
    (hk0 : 0 ≤ k0) (hkb : k0 + (h.length : Int) + (r.length : Int) + (lensII R : Nat) ≤ 1073741824) (hh : h.length ≤ 1048576) (hr : r.length ≤ 1048576) (hR : R.length ≤ 1048576) (hl : ∀ l ∈ R, l.length ≤ 1048576) :
    Calls Try.prog 53 #[.agg #[.int .i64 c, .int .i64 s, .int .i64 mn, .int .i64 mx, .slice x.A x.n x.c, .slice y.A y.n y.c, .slice z.A z.n z.c], .int .i64 k0] w fun e w' => e = .returned (.int .i64 (k0 + (h.length : Int) + (r.length : Int) + (lensII R : Nat))) ∧
      Sk w' a b x y z (marksI k0 h.length) (marksI (k0 + (h.length : Int)) r.length) (marksII (k0 + (h.length : Int) + (r.length : Int)) R) ∧ Kp w w' a b := by
  obtain ⟨ux, uy, uz⟩ := u
  have hB := Bx.new w 27 #[.int .i64 c, .int .i64 s, .int .i64 mn, .int .i64 mx, .slice x.A x.n x.c, .slice y.A y.n y.c, .slice z.A z.n z.c]
  have hb0 : Below w.heap.size w (w.alloc (.cells #[.int .i64 c, .int .i64 s, .int .i64 mn, .int .i64 mx, .slice x.A x.n x.c, .slice y.A y.n y.c, .slice z.A z.n z.c] 27)) := below_alloc (Below.refl _ _) _
  have call1 := fun W (hW : Below w.heap.size w W) => markI_call (b := b) k k0 (Kd.R_below ux hW) (fun _ hq => hq) (Nat.le_trans ha hW.size) (hm.out h k0 hh hk0 (by omega))
  have call2 := fun W (uy : Kd.R (Kd.int .i64) 3 W a (fun k => k < b ∧ some k ≠ (Value.slice x.A x.n x.c).ownBlock) (.slice y.A y.n y.c) r) (ha : a ≤ W.heap.size) => markI_call (b := b) k (k0 + (h.length : Int)) uy (fun _ hq => hq.1) ha (hm.out r (k0 + (h.length : Int)) hr (by omega) (by omega))
  have call3 := fun W (uz : Kd.S (Kd.slice 3 (Kd.int .i64)) 24 W a (fun k => k < b ∧ some k ≠ (Value.slice x.A x.n x.c).ownBlock ∧ some k ≠ (Value.slice y.A y.n y.c).ownBlock) (.slice z.A z.n z.c) R) (ha : a ≤ W.heap.size) => markII_call (b := b) k ⟨fun l k0 h1 h2 h3 => hm.out l k0 h1 h2 h3⟩ (k0 + (h.length : Int) + (r.length : Int)) uz (fun _ hq => hq.1) ha (by omega) hkb hR hl
  have UX := Aside0.mk ux
  have UY := Aside0.mk uy
  have UZ := Aside0.mk uz
  have HBX := Aside0.mk hB
  have HB0 := Aside0.mk hb0
  have HBB := Aside0.mk hb
  have HA := Aside0.mk ha
  have K1 := Aside0.mk call1
  have K2 := Aside0.mk call2
  have K3 := Aside0.mk call3
  clear ux uy uz hB hb0 hb ha call1 call2 call3 hkb hh hr hR hl hk0
  go_enter Try.func53, Try.ntmps53
  go_wp2_with fail
  refine (K1.out _ HB0.out).mono ?_
  rintro e w1 ⟨rfl, hr1, hkp1, hkt1⟩
  have bx1 := Bx.kp HBX.out hkp1 (.inr HBB.out)
  have y1 := row_kept (Kd.R_below UY.out HB0.out) hkt1 (fun q hq hs => (UY.out.1 q hq).2 hs)
  have z1 := Kd.S_kept (Kd.S_below UZ.out HB0.out) hkt1 (fun q hq hs => hq.2.1 hs)
  have cells := bx1.cells
  obtain ⟨_, _, _, _, _, c5, _⟩ := cells
  have X1 := Aside0.mk hr1
  have KP1 := Aside0.mk hkp1
  have BX1 := Aside0.mk bx1
  have Y1 := Aside0.mk y1
  have Z1 := Aside0.mk z1
  clear hr1 hkp1 hkt1 bx1 y1 z1
  go_wp2_with fail
  clear c5
  refine (K2.out _ Y1.out (Nat.le_trans HA.out (Nat.le_trans HB0.out.size KP1.out.kept.1))).mono ?_
  rintro e w2 ⟨rfl, hr2, hkp2, hkt2⟩
  have bx2 := Bx.kp BX1.out hkp2 (.inr HBB.out)
  have x2 := row_kept X1.out hkt2 (fun q hq hs => (UY.out.1 q hs.symm).2 hq.symm)
  have z2 := Kd.S_kept Z1.out hkt2 (fun q hq hs => hq.2.2 hs)
  have cells := bx2.cells
  obtain ⟨_, _, _, _, _, _, c6⟩ := cells
  have X2 := Aside0.mk x2
  have KP2 := Aside0.mk (KP1.out.trans hkp2)
  have BX2 := Aside0.mk bx2
  have Y2 := Aside0.mk hr2
  have Z2 := Aside0.mk z2
  clear hr2 hkp2 hkt2 bx2 x2 z2
  go_wp2_with fail
  clear c6
  refine (K3.out _ Z2.out (Nat.le_trans HA.out (Nat.le_trans HB0.out.size KP2.out.kept.1))).mono ?_
  rintro e w3 ⟨rfl, hr3, hkp3, hkt3⟩
  have x3 := row_kept X2.out hkt3 (fun q hq hs => hs.2.1 hq.symm)
  have y3 := row_kept Y2.out hkt3 (fun q hq hs => hs.2.2 hq.symm)
  have S3 := Aside0.mk (show Sk w3 a b x y z _ _ _ from ⟨x3, y3, hr3⟩)
  have KP3 := Aside0.mk (((Kp.of HB0.out).trans KP2.out).trans hkp3)
  clear hr3 hkp3 hkt3 x3 y3
  go_wp2
  go_ret
  exact ⟨rfl, S3.out, KP3.out⟩
theorem mark_callM (k : Nat) (hm : Aside0 (MkI k)) {w : World} {a b : Nat} {x y z : Sl} {h r : List Int} {R : List (List Int)} (c s mn mx k0 M : Int) (u : Sk w a b x y z h r R) (ha : a ≤ w.heap.size) (hb : b ≤ w.heap.size)
    (hk0 : 0 ≤ k0) (lm : Aside0 (k0 + (h.length : Int) + (r.length : Int) + (lensII R : Nat) = M ∧ M ≤ 1073741824 ∧ h.length ≤ 1048576 ∧ r.length ≤ 1048576 ∧ R.length ≤ 1048576 ∧ ∀ l ∈ R, l.length ≤ 1048576)) :
    Calls Try.prog 53 #[.agg #[.int .i64 c, .int .i64 s, .int .i64 mn, .int .i64 mx, .slice x.A x.n x.c, .slice y.A y.n y.c, .slice z.A z.n z.c], .int .i64 k0] w fun e w' => e = .returned (.int .i64 M) ∧
      Sk w' a b x y z (marksI k0 h.length) (marksI (k0 + (h.length : Int)) r.length) (marksII (k0 + (h.length : Int) + (r.length : Int)) R) ∧ Kp w w' a b := by
  obtain ⟨h1, h2, h3, h4, h5, h6⟩ := lm.out
  have := mark_call k hm c s mn mx k0 u ha hb hk0 (by omega) h3 h4 h5 h6
  rw [h1] at this
  exact this
theorem rdR_get {xs : List (List Int)} {n : Nat} (h : n < xs.length) : rd_L1 xs (n : Int) = xs[n] := by
  unfold rd_L1
  rw [Int.toNat_natCast, List.getD_eq_getElem?_getD, List.getElem?_eq_getElem h]
  rfl
theorem rdI_get {xs : List S70} {n : Nat} (h : n < xs.length) : rd_T70 xs (n : Int) = xs[n] := by
  unfold rd_T70
  rw [Int.toNat_natCast, List.getD_eq_getElem?_getD, List.getElem?_eq_getElem h]
  rfl
theorem markI_at (a : Int) (n : Nat) (ha : 0 ≤ a) (hb : a ≤ 1073741824) (hn : n ≤ 1048576) (d : Nat) : ∀ (k i : Nat) (x3 : List Int), d < k → i + d = n → x3.length = n → x3.take i = (marksI a n).take i →
    laws_markIntS.l0 k x3 (a + (i : Int)) (i : Int) = some (a + (n : Int), marksI a n) := by
  induction d with
  | zero =>
    intro k i x3 hk hi hl ht
    obtain ⟨k, rfl⟩ : ∃ m, k = m + 1 := ⟨k - 1, by omega⟩
    simp only [laws_markIntS.l0]
    rw [if_neg (by omega), take_all (ys := marksI a n) (by rw [hl, marksI_length]) (by rw [marksI_length]; omega) ht, show i = n by omega]
  | succ d ih =>
    intro k i x3 hk hi hl ht
    obtain ⟨k, rfl⟩ : ∃ m, k = m + 1 := ⟨k - 1, by omega⟩
    simp only [laws_markIntS.l0]
    rw [if_pos (by omega), if_pos (by omega), w64 (x := (i : Int) + 1) (by omega) (by omega), w64 (x := a + (i : Int) + 1) (by omega) (by omega), Int.toNat_natCast]
    have e := ih k (i + 1) (x3.set i (a + (i : Int))) (by omega) (by omega) (by simp [hl]) (by
      have hm : a + (i : Int) = (marksI a n)[i]'(by rw [marksI_length]; omega) := by rw [marksI_get]
      rw [hm]
      exact take_set (ys := marksI a n) (by rw [hl, marksI_length]) (by rw [marksI_length]; omega) ht)
    rw [show (i : Int) + 1 = ((i + 1 : Nat) : Int) by omega, show a + (i : Int) + 1 = a + ((i + 1 : Nat) : Int) by omega]
    exact e
theorem mkI (k : Nat) (hk : 1048577 ≤ k) : MkI k := by
  intro l k0 hl h0 h1
  have := markI_at k0 l.length h0 h1 hl l.length k 0 l (by omega) (by omega) rfl (by simp)
  simpa [laws_markIntS.f] using this
theorem heldI_at (a : Int) (n : Nat) (ha : 0 ≤ a) (hb : a ≤ 1073741824) (hn : n ≤ 1048576) (d : Nat) : ∀ i : Nat, i + d = n →
    Ev (fun k => laws_heldIntS.l0 k (marksI a n) (a + (i : Int)) (i : Int)) (a + (n : Int)) := by
  induction d with
  | zero =>
    intro i hi
    refine Ev.step (fun _ => rfl) ?_
    simp only [laws_heldIntS.l0]
    exact ev_neg (by rw [marksI_length]; omega) (ev_some (by rw [show i = n by omega]))
  | succ d ih =>
    intro i hi
    refine Ev.step (fun _ => rfl) ?_
    simp only [laws_heldIntS.l0]
    have hl := marksI_length a n
    refine ev_pos (by omega) (ev_pos (by omega) (ev_pos (by rw [rd_get (show i < (marksI a n).length by omega), marksI_get]) ?_))
    rw [w64 (x := (i : Int) + 1) (by omega) (by omega), w64 (x := a + (i : Int) + 1) (by omega) (by omega), show (i : Int) + 1 = ((i + 1 : Nat) : Int) by omega, show a + (i : Int) + 1 = a + ((i + 1 : Nat) : Int) by omega]
    exact ih (i + 1) (by omega)
theorem heldI_ev (a : Int) (n : Nat) (ha : 0 ≤ a) (hb : a ≤ 1073741824) (hn : n ≤ 1048576) : Ev (fun k => laws_heldIntS.f k (marksI a n) a) (a + (n : Int)) := by
  have := heldI_at a n ha hb hn n 0 (by omega)
  simpa [laws_heldIntS.f] using this
theorem heldII_at (a : Int) (R : List (List Int)) (ha : 0 ≤ a) (hb : a + (lensII R : Nat) ≤ 1073741824) (hR : R.length ≤ 1048576) (hl : ∀ l ∈ R, l.length ≤ 1048576) (d : Nat) : ∀ i : Nat, i + d = R.length →
    Ev (fun k => laws_heldIntSS.l0 k (marksII a R) (a + (lensII (R.take i) : Nat)) (i : Int)) (a + (lensII R : Nat)) := by
  induction d with
  | zero =>
    intro i hi
    refine Ev.step (fun _ => rfl) ?_
    simp only [laws_heldIntSS.l0]
    exact ev_neg (by rw [marksII_length]; omega) (ev_some (by rw [show i = R.length by omega, List.take_length]))
  | succ d ih =>
    intro i hi
    refine Ev.step (fun _ => rfl) ?_
    simp only [laws_heldIntSS.l0]
    have hlen := marksII_length R a
    have hiR : i < R.length := by omega
    have hle := lensII_le R i
    have ht := lensII_take R i hiR
    have hg : rd_L1 (marksII a R) (i : Int) = marksI (a + (lensII (R.take i) : Nat)) R[i].length := by rw [rdR_get (show i < (marksII a R).length by omega), marksII_get R a i hiR]
    rw [hg, wsucc (by omega)]
    refine ev_pos (by omega) (ev_pos (by omega) (Ev.bind (heldI_ev (a + (lensII (R.take i) : Nat)) R[i].length (by omega) (by omega) (hl _ (List.getElem_mem hiR))) (ev_neg (by omega) ?_)))
    rw [show a + (lensII (R.take i) : Nat) + (R[i].length : Int) = a + (lensII (R.take (i + 1)) : Nat) by omega]
    exact ih (i + 1) (by omega)
theorem heldSketch_ev (c s mn mx a : Int) (n m : Nat) (R : List (List Int)) (ha : 0 ≤ a) (hb : a + (n : Int) + (m : Int) + (lensII R : Nat) ≤ 1073741824) (hn : n ≤ 1048576) (hm : m ≤ 1048576) (hR : R.length ≤ 1048576) (hl : ∀ l ∈ R, l.length ≤ 1048576) :
    Ev (fun k => laws_heldSketch.f k c s mn mx (marksI a n) (marksI (a + (n : Int)) m) (marksII (a + (n : Int) + (m : Int)) R) a) (a + (n : Int) + (m : Int) + (lensII R : Nat)) := by
  unfold laws_heldSketch.f
  refine Ev.bind (heldI_ev a n ha (by omega) hn) (ev_neg (by omega) (Ev.bind (heldI_ev (a + (n : Int)) m (by omega) (by omega) hm) (ev_neg (by omega) ?_)))
  have := heldII_at (a + (n : Int) + (m : Int)) R (by omega) hb hR hl R.length 0 (by omega)
  rw [show lensII (R.take 0) = 0 from by simp [lensII]] at this
  exact Ev.bind (by simpa [laws_heldIntSS.f] using this) (ev_neg (by omega) (ev_some rfl))
def msp (a n : Nat) : List S70 := (List.range n).map fun j => ⟨((a + 2 * j : Nat) : Int), ((a + 2 * j + 1 : Nat) : Int)⟩
theorem msp_length (a n : Nat) : (msp a n).length = n := by simp [msp]
theorem msp_get (a n i : Nat) (h : i < (msp a n).length) : (msp a n)[i] = ⟨((a + 2 * i : Nat) : Int), ((a + 2 * i + 1 : Nat) : Int)⟩ := by simp [msp]
theorem markSpanS_at (a : Nat) (n : Nat) (hn : a + 2 * n ≤ 281474976702464) (d : Nat) : ∀ (i : Nat) (x3 : List S70), i + d = n → x3.length = n → x3.take i = (msp a n).take i →
    Ev (fun k => laws_markSpanS.l0 k x3 ((a + 2 * i : Nat) : Int) (i : Int)) (((a + 2 * n : Nat) : Int), msp a n) := by
  induction d with
  | zero =>
    intro i x3 hi hl ht
    refine Ev.step (fun _ => rfl) ?_
    simp only [laws_markSpanS.l0]
    refine ev_neg (by omega) (ev_some ?_)
    rw [take_all (ys := msp a n) (by rw [hl, msp_length]) (by rw [msp_length]; omega) ht, show i = n by omega]
  | succ d ih =>
    intro i x3 hi hl ht
    refine Ev.step (fun _ => rfl) ?_
    simp only [laws_markSpanS.l0]
    refine ev_pos (by omega) (ev_pos (by omega) (ev_bind0 rfl ?_))
    rw [wsucc (show i ≤ 281474976702464 by omega), Int.toNat_natCast, wsucc (show a + 2 * i ≤ 281474976702464 by omega), wsucc (show a + 2 * i + 1 ≤ 281474976702464 by omega)]
    rw [rdI_get (xs := x3.set i _) (show i < (x3.set i _).length by simp; omega)]
    simp only [List.getElem_set_self, List.set_set]
    have e : (⟨((a + 2 * i : Nat) : Int), ((a + 2 * i + 1 : Nat) : Int)⟩ : S70) = (msp a n)[i]'(by rw [msp_length]; omega) := by rw [msp_get]
    rw [e, show a + 2 * i + 1 + 1 = a + 2 * (i + 1) by omega]
    exact ih (i + 1) _ (by omega) (by simp [hl]) (take_set (ys := msp a n) (by rw [hl, msp_length]) (by rw [msp_length]; omega) ht)
theorem markSpanS_ev (x0 : List S70) (a : Nat) (hn : a + 2 * x0.length ≤ 281474976702464) : Ev (fun k => laws_markSpanS.f k x0 (a : Int)) (((a + 2 * x0.length : Nat) : Int), msp a x0.length) := by
  unfold laws_markSpanS.f
  exact markSpanS_at a x0.length hn x0.length 0 x0 (by omega) rfl (by simp)
theorem heldSpanS_at (a : Nat) (n : Nat) (hn : a + 2 * n ≤ 281474976702464) (d : Nat) : ∀ (i : Nat), i + d = n →
    Ev (fun k => laws_heldSpanS.l0 k (msp a n) ((a + 2 * i : Nat) : Int) (i : Int)) ((a + 2 * n : Nat) : Int) := by
  induction d with
  | zero =>
    intro i hi
    refine Ev.step (fun _ => rfl) ?_
    simp only [laws_heldSpanS.l0, msp_length]
    refine ev_neg (by omega) (ev_some ?_)
    rw [show i = n by omega]
  | succ d ih =>
    intro i hi
    refine Ev.step (fun _ => rfl) ?_
    simp only [laws_heldSpanS.l0, msp_length]
    rw [wsucc (show i ≤ 281474976702464 by omega), wsucc (show a + 2 * i ≤ 281474976702464 by omega), wsucc (show a + 2 * i + 1 ≤ 281474976702464 by omega), rdI_get (show i < (msp a n).length by rw [msp_length]; omega), msp_get]
    refine ev_pos (by omega) (ev_pos (by omega) (ev_pos rfl (ev_pos rfl ?_)))
    rw [show a + 2 * i + 1 + 1 = a + 2 * (i + 1) by omega]
    exact ih (i + 1) (by omega)
theorem heldSpanS_ev (a n : Nat) (hn : a + 2 * n ≤ 281474976702464) : Ev (fun k => laws_heldSpanS.f k (msp a n) (a : Int)) ((a + 2 * n : Nat) : Int) := by
  unfold laws_heldSpanS.f
  exact heldSpanS_at a n hn n 0 (by omega)
theorem Bx.cells10 {w : World} {g t : Nat} {v0 v1 v2 v3 v4 v5 v6 v7 v8 v9 : Value} (hb : Bx w g t #[v0, v1, v2, v3, v4, v5, v6, v7, v8, v9]) : w.cell? ⟨g, 0, none⟩ = some v0 ∧ w.cell? ⟨g, 1, none⟩ = some v1 ∧ w.cell? ⟨g, 2, none⟩ = some v2 ∧ w.cell? ⟨g, 3, none⟩ = some v3 ∧ w.cell? ⟨g, 4, none⟩ = some v4 ∧ w.cell? ⟨g, 5, none⟩ = some v5 ∧ w.cell? ⟨g, 6, none⟩ = some v6 ∧ w.cell? ⟨g, 7, none⟩ = some v7 ∧ w.cell? ⟨g, 8, none⟩ = some v8 ∧ w.cell? ⟨g, 9, none⟩ = some v9 := ⟨blk_cell hb 0, blk_cell hb 1, blk_cell hb 2, blk_cell hb 3, blk_cell hb 4, blk_cell hb 5, blk_cell hb 6, blk_cell hb 7, blk_cell hb 8, blk_cell hb 9⟩
theorem Bx.cells11 {w : World} {g t : Nat} {v0 v1 v2 v3 v4 v5 v6 v7 v8 v9 v10 : Value} (hb : Bx w g t #[v0, v1, v2, v3, v4, v5, v6, v7, v8, v9, v10]) : w.cell? ⟨g, 0, none⟩ = some v0 ∧ w.cell? ⟨g, 1, none⟩ = some v1 ∧ w.cell? ⟨g, 2, none⟩ = some v2 ∧ w.cell? ⟨g, 3, none⟩ = some v3 ∧ w.cell? ⟨g, 4, none⟩ = some v4 ∧ w.cell? ⟨g, 5, none⟩ = some v5 ∧ w.cell? ⟨g, 6, none⟩ = some v6 ∧ w.cell? ⟨g, 7, none⟩ = some v7 ∧ w.cell? ⟨g, 8, none⟩ = some v8 ∧ w.cell? ⟨g, 9, none⟩ = some v9 ∧ w.cell? ⟨g, 10, none⟩ = some v10 := ⟨blk_cell hb 0, blk_cell hb 1, blk_cell hb 2, blk_cell hb 3, blk_cell hb 4, blk_cell hb 5, blk_cell hb 6, blk_cell hb 7, blk_cell hb 8, blk_cell hb 9, blk_cell hb 10⟩
structure Qd (w : World) (q : Sl) (l : List S70) : Prop where
  e : q.n = l.length
  le : l.length ≤ q.c
  C : k70.C w q.A l.length l
def Ek (w : World) (a b : Nat) (q x y z : Sl) (l : List S70) (h r : List Int) (R : List (List Int)) : Prop :=
  Kd.R k70 70 w a (fun k => k < b) (.slice q.A q.n q.c) l ∧ Sk w a b x y z h r R
structure Ed (w : World) (q x y z : Sl) (l : List S70) (h r : List Int) (R : List (List Int)) : Prop where
  q : Qd w q l
  s : Rd w x y z h r R
section
variable {w w1 w' : World} {a b a' b' : Nat} {q x y z : Sl} {l : List S70} {h r : List Int} {R : List (List Int)}
theorem Ek.below (s : Ek w a b q x y z l h r R) (hb : Below w.heap.size w w1) : Ek w1 a b q x y z l h r R := ⟨Kd.R_below s.1 hb, s.2.below hb⟩
theorem Ek.kp (s : Ek w a' b' q x y z l h r R) (k : Kp w w1 a b) (ha : b ≤ a' ∨ b' ≤ a) : Ek w1 a' b' q x y z l h r R :=
  ⟨Kd.R_mono (Kd.R_move (Kd.R_bound s.1) (fun i hi => k.kept.2 i hi.2.2.1 (fun hs => by have := hi.1; have := hi.2.1; omega))) (fun _ hk => hk.1), s.2.kp k ha⟩
theorem Ed.below (s : Ed w q x y z l h r R) (hb : Below w.heap.size w w1) : Ed w1 q x y z l h r R := ⟨⟨s.q.e, s.q.le, Kd.C_below s.q.C hb⟩, s.s.below hb⟩
theorem Ek.rd (s : Ek w a b q x y z l h r R) : Ed w q x y z l h r R := by
  obtain ⟨h1, h2, h3⟩ := Kd.R_reads' s.1
  exact ⟨⟨h1, by omega, h3⟩, s.2.rd⟩
theorem Ek.of {base : Nat} {ok2 ok4 ok5 ok6 : Nat → Prop} {v2 v4 v5 v6 : Value} (h2 : Kd.R k70 70 w' base ok2 v2 l) (h4 : Kd.R (Kd.int .i64) 3 w' base ok4 v4 h) (h5 : Kd.R (Kd.int .i64) 3 w' base ok5 v5 r) (h6 : Kd.S (Kd.slice 3 (Kd.int .i64)) 24 w' base ok6 v6 R) (hok5 : ∀ k, ok5 k → some k ≠ v4.ownBlock) (hok6 : ∀ k, ok6 k → some k ≠ v4.ownBlock ∧ some k ≠ v5.ownBlock) :
    ∃ q x y z : Sl, v2 = .slice q.A q.n q.c ∧ v4 = .slice x.A x.n x.c ∧ v5 = .slice y.A y.n y.c ∧ v6 = .slice z.A z.n z.c ∧ Ek w' base w'.heap.size q x y z l h r R := by
  obtain ⟨A2, c2, rfl⟩ := Kd.R_slice h2
  obtain ⟨x, y, z, e4, e5, e6, hs⟩ := Sk.of h4 h5 h6 hok5 hok6
  exact ⟨⟨A2, _, c2⟩, x, y, z, rfl, e4, e5, e6, Kd.R_mono (Kd.R_bound h2) (fun _ hk => hk.2.2.1), hs⟩
def SkP (P : Nat → Prop) (w : World) (a b : Nat) (x y z : Sl) (h r : List Int) (R : List (List Int)) : Prop :=
  Kd.R (Kd.int .i64) 3 w a (fun k => k < b ∧ P k) (.slice x.A x.n x.c) h ∧ Kd.R (Kd.int .i64) 3 w a (fun k => (k < b ∧ some k ≠ (Value.slice x.A x.n x.c).ownBlock) ∧ P k) (.slice y.A y.n y.c) r ∧
  Kd.S (Kd.slice 3 (Kd.int .i64)) 24 w a (fun k => (k < b ∧ some k ≠ (Value.slice x.A x.n x.c).ownBlock ∧ some k ≠ (Value.slice y.A y.n y.c).ownBlock) ∧ P k) (.slice z.A z.n z.c) R
theorem Ek.apart (s : Ek w a b q x y z l h r R) : SkP (fun k => some k ≠ (Value.slice q.A q.n q.c).ownBlock) w a b x y z h r R :=
  ⟨Kd.R_apart' s.2.1 (Kd.R_typed s.1) (by decide), Kd.R_apart' s.2.2.1 (Kd.R_typed s.1) (by decide), Kd.S_apart' s.2.2.2 (Kd.R_typed s.1) (by decide)⟩
theorem SkP.below {P : Nat → Prop} (s : SkP P w a b x y z h r R) (hb : Below w.heap.size w w1) : SkP P w1 a b x y z h r R := ⟨Kd.R_below s.1 hb, Kd.R_below s.2.1 hb, Kd.S_below s.2.2 hb⟩
theorem SkP.kept {P S : Nat → Prop} (s : SkP P w a b x y z h r R) (hk : Kept w w1 S) (hne : ∀ k, P k → ¬ S k) : SkP P w1 a b x y z h r R :=
  ⟨Kd.R_kept s.1 hk (fun k h => hne k h.2), Kd.R_kept s.2.1 hk (fun k h => hne k h.2), Kd.S_kept s.2.2 hk (fun k h => hne k h.2)⟩
end

set_option maxHeartbeats 4000000 in
theorem mark_callP (P : Nat → Prop) (k : Nat) (hm : Aside0 (MkI k)) {w : World} {a b : Nat} {x y z : Sl} {h r : List Int} {R : List (List Int)} (c s mn mx k0 : Int) (u : SkP P w a b x y z h r R) (ha : a ≤ w.heap.size) (hb : b ≤ w.heap.size)
    (hk0 : 0 ≤ k0) (hkb : k0 + (h.length : Int) + (r.length : Int) + (lensII R : Nat) ≤ 1073741824) (hh : h.length ≤ 1048576) (hr : r.length ≤ 1048576) (hR : R.length ≤ 1048576) (hl : ∀ l ∈ R, l.length ≤ 1048576) :
    Calls Try.prog 53 #[.agg #[.int .i64 c, .int .i64 s, .int .i64 mn, .int .i64 mx, .slice x.A x.n x.c, .slice y.A y.n y.c, .slice z.A z.n z.c], .int .i64 k0] w fun e w' => e = .returned (.int .i64 (k0 + (h.length : Int) + (r.length : Int) + (lensII R : Nat))) ∧
      Sk w' a b x y z (marksI k0 h.length) (marksI (k0 + (h.length : Int)) r.length) (marksII (k0 + (h.length : Int) + (r.length : Int)) R) ∧ Kp w w' a b ∧ Kept w w' P := by
  obtain ⟨ux, uy, uz⟩ := u
  have hB := Bx.new w 27 #[.int .i64 c, .int .i64 s, .int .i64 mn, .int .i64 mx, .slice x.A x.n x.c, .slice y.A y.n y.c, .slice z.A z.n z.c]
  have hb0 : Below w.heap.size w (w.alloc (.cells #[.int .i64 c, .int .i64 s, .int .i64 mn, .int .i64 mx, .slice x.A x.n x.c, .slice y.A y.n y.c, .slice z.A z.n z.c] 27)) := below_alloc (Below.refl _ _) _
  have call1 := fun W (hW : Below w.heap.size w W) => markI_call (b := b) k k0 (Kd.R_below ux hW) (fun _ hq => hq.1) (Nat.le_trans ha hW.size) (hm.out h k0 hh hk0 (by omega))
  have call2 := fun W (uy : Kd.R (Kd.int .i64) 3 W a (fun k => (k < b ∧ some k ≠ (Value.slice x.A x.n x.c).ownBlock) ∧ P k) (.slice y.A y.n y.c) r) (ha : a ≤ W.heap.size) => markI_call (b := b) k (k0 + (h.length : Int)) uy (fun _ hq => hq.1.1) ha (hm.out r (k0 + (h.length : Int)) hr (by omega) (by omega))
  have call3 := fun W (uz : Kd.S (Kd.slice 3 (Kd.int .i64)) 24 W a (fun k => (k < b ∧ some k ≠ (Value.slice x.A x.n x.c).ownBlock ∧ some k ≠ (Value.slice y.A y.n y.c).ownBlock) ∧ P k) (.slice z.A z.n z.c) R) (ha : a ≤ W.heap.size) => markII_call (b := b) k ⟨fun l k0 h1 h2 h3 => hm.out l k0 h1 h2 h3⟩ (k0 + (h.length : Int) + (r.length : Int)) uz (fun _ hq => hq.1.1) ha (by omega) hkb hR hl
  have UX := Aside0.mk ux
  have UY := Aside0.mk uy
  have UZ := Aside0.mk uz
  have HBX := Aside0.mk hB
  have HB0 := Aside0.mk hb0
  have HBB := Aside0.mk hb
  have HA := Aside0.mk ha
  have K1 := Aside0.mk call1
  have K2 := Aside0.mk call2
  have K3 := Aside0.mk call3
  clear ux uy uz hB hb0 hb ha call1 call2 call3 hkb hh hr hR hl hk0
  go_enter Try.func53, Try.ntmps53
  go_wp2_with fail
  refine (K1.out _ HB0.out).mono ?_
  rintro e w1 ⟨rfl, hr1, hkp1, hkt1⟩
  have bx1 := Bx.kp HBX.out hkp1 (.inr HBB.out)
  have y1 := row_kept (Kd.R_below UY.out HB0.out) hkt1 (fun q hq hs => (UY.out.1 q hq).1.2 hs)
  have z1 := Kd.S_kept (Kd.S_below UZ.out HB0.out) hkt1 (fun q hq hs => hq.1.2.1 hs)
  have cells := bx1.cells
  obtain ⟨_, _, _, _, _, c5, _⟩ := cells
  have T1 := Aside0.mk (((Kept.refl w P).below HB0.out).then_ hkt1 (fun q hq => .inl (UX.out.1 q hq.symm).2))
  have X1 := Aside0.mk hr1
  have KP1 := Aside0.mk hkp1
  have BX1 := Aside0.mk bx1
  have Y1 := Aside0.mk y1
  have Z1 := Aside0.mk z1
  clear hr1 hkp1 hkt1 bx1 y1 z1
  go_wp2_with fail
  clear c5
  refine (K2.out _ Y1.out (Nat.le_trans HA.out (Nat.le_trans HB0.out.size KP1.out.kept.1))).mono ?_
  rintro e w2 ⟨rfl, hr2, hkp2, hkt2⟩
  have bx2 := Bx.kp BX1.out hkp2 (.inr HBB.out)
  have x2 := row_kept X1.out hkt2 (fun q hq hs => (UY.out.1 q hs.symm).1.2 hq.symm)
  have z2 := Kd.S_kept Z1.out hkt2 (fun q hq hs => hq.1.2.2 hs)
  have cells := bx2.cells
  obtain ⟨_, _, _, _, _, _, c6⟩ := cells
  have T2 := Aside0.mk (T1.out.then_ hkt2 (fun q hq => .inl (UY.out.1 q hq.symm).2))
  have X2 := Aside0.mk x2
  have KP2 := Aside0.mk (KP1.out.trans hkp2)
  have BX2 := Aside0.mk bx2
  have Y2 := Aside0.mk hr2
  have Z2 := Aside0.mk z2
  clear hr2 hkp2 hkt2 bx2 x2 z2
  go_wp2_with fail
  clear c6
  refine (K3.out _ Z2.out (Nat.le_trans HA.out (Nat.le_trans HB0.out.size KP2.out.kept.1))).mono ?_
  rintro e w3 ⟨rfl, hr3, hkp3, hkt3⟩
  have x3 := row_kept X2.out hkt3 (fun q hq hs => hs.1.2.1 hq.symm)
  have y3 := row_kept Y2.out hkt3 (fun q hq hs => hs.1.2.2 hq.symm)
  have T3 := Aside0.mk (T2.out.then_ hkt3 (fun q hq => .inl hq.2))
  have S3 := Aside0.mk (show Sk w3 a b x y z _ _ _ from ⟨Kd.R_mono x3 (fun _ hk => hk.1), Kd.R_mono y3 (fun _ hk => hk.1), Kd.S_mono hr3 (fun _ hk => hk.1)⟩)
  have KP3 := Aside0.mk (((Kp.of HB0.out).trans KP2.out).trans hkp3)
  clear hr3 hkp3 hkt3 x3 y3
  go_wp2
  go_ret
  exact ⟨rfl, S3.out, KP3.out, T3.out⟩

theorem markQ_call (k : Nat) {w : World} {a b : Nat} {v : Value} {l ml : List S70} {ok : Nat → Prop} (k0 k1 : Int) (u : Kd.R k70 70 w a ok v l) (hok : ∀ k, ok k → k < b) (ha : a ≤ w.heap.size) (he : laws_markSpanS.f k l k0 = some (k1, ml)) :
    Calls Try.prog 54 #[v, .int .i64 k0] w fun e w' => e = .returned (.int .i64 k1) ∧ Kd.R k70 70 w' a ok v ml ∧ Kp w w' a b ∧ Kept w w' (fun k => some k = v.ownBlock) := by
  obtain ⟨w0, hw0, hB⟩ : ∃ w0 : World, w0.heap.size = a ∧ Below a w0 w := by
    refine ⟨{ w with heap := w.heap.extract 0 a }, by simp; omega, ⟨rfl, rfl, rfl, by simp; omega, fun i hi => ?_⟩⟩
    simp [Array.getElem?_extract]
    omega
  subst hw0
  have u1 : Kd.R k70 70 w w0.heap.size (fun k => some k = v.ownBlock) v l := Kd.R_tight rfl u
  refine (laws_markSpanS.calls k (fun k => some k = v.ownBlock) v l k0 _ _ w0 w hB u1 he).mono ?_
  rintro e w' ⟨rfl, hr, hb, hk⟩
  refine ⟨rfl, Kd.R_reok rfl hr (fun k hk => u.1 k hk), ⟨hb.os.trans hB.os.symm, hb.tape.trans hB.tape.symm, hb.output.trans hB.output.symm, hk.mono (fun i hi => ⟨Kd.R_base u i hi.symm, hok i (u.1 i hi.symm)⟩)⟩, hk⟩
set_option maxHeartbeats 4000000 in
theorem markE_call (k : Nat) (hm : Aside0 (MkI k)) {w : World} {a b : Nat} {q x y z : Sl} {l ml : List S70} {h r : List Int} {R : List (List Int)} (ke wi c s lo hi k0 k1 M : Int) (u : Ek w a b q x y z l h r R) (ha : a ≤ w.heap.size) (hb : b ≤ w.heap.size)
    (hk1 : 0 ≤ k1) (he : Aside0 (laws_markSpanS.f k l k0 = some (k1, ml))) (lm : Aside0 (k1 + (h.length : Int) + (r.length : Int) + (lensII R : Nat) = M ∧ M ≤ 1073741824 ∧ h.length ≤ 1048576 ∧ r.length ≤ 1048576 ∧ R.length ≤ 1048576 ∧ ∀ l ∈ R, l.length ≤ 1048576)) :
    Calls Try.prog 24 #[.agg #[.int .i64 ke, .int .i64 wi, .slice q.A q.n q.c, .int .i64 c, .int .i64 s, .int .i64 lo, .int .i64 hi, .slice x.A x.n x.c, .slice y.A y.n y.c, .slice z.A z.n z.c], .int .i64 k0] w fun e w' => e = .returned (.int .i64 M) ∧
      Ek w' a b q x y z ml (marksI k1 h.length) (marksI (k1 + (h.length : Int)) r.length) (marksII (k1 + (h.length : Int) + (r.length : Int)) R) ∧ Kp w w' a b := by
  have hB := Bx.new w 34 #[.int .i64 ke, .int .i64 wi, .slice q.A q.n q.c, .int .i64 c, .int .i64 s, .int .i64 lo, .int .i64 hi, .slice x.A x.n x.c, .slice y.A y.n y.c, .slice z.A z.n z.c]
  have hb0 : Below w.heap.size w (w.alloc (.cells #[.int .i64 ke, .int .i64 wi, .slice q.A q.n q.c, .int .i64 c, .int .i64 s, .int .i64 lo, .int .i64 hi, .slice x.A x.n x.c, .slice y.A y.n y.c, .slice z.A z.n z.c] 34)) := below_alloc (Below.refl _ _) _
  have uq := u.1
  have up := u.apart
  have call1 := fun W (hW : Below w.heap.size w W) => markQ_call (b := b) k k0 k1 (Kd.R_below uq hW) (fun _ hq => hq) (Nat.le_trans ha hW.size) he.out
  have call2 := fun W (us : SkP (fun k => some k ≠ (Value.slice q.A q.n q.c).ownBlock) W a b x y z h r R) (hW : w.heap.size ≤ W.heap.size) => mark_callP (fun k => some k ≠ (Value.slice q.A q.n q.c).ownBlock) k hm c s lo hi k1 us (Nat.le_trans ha hW) (Nat.le_trans hb hW) hk1 (by have := lm.out; omega) lm.out.2.2.1 lm.out.2.2.2.1 lm.out.2.2.2.2.1 lm.out.2.2.2.2.2
  rw [lm.out.1] at call2
  have UQ := Aside0.mk uq
  have UP := Aside0.mk up
  have HBX := Aside0.mk hB
  have HB0 := Aside0.mk hb0
  have HBB := Aside0.mk hb
  have K1 := Aside0.mk call1
  have K2 := Aside0.mk call2
  clear uq up hB hb0 hb call1 call2 u lm ha he
  go_enter Try.func24, Try.ntmps24
  go_wp2_with fail
  refine (K1.out _ HB0.out).mono ?_
  rintro e w1 ⟨rfl, hr1, hkp1, hkt1⟩
  have bx1 := Bx.kp HBX.out hkp1 (.inr HBB.out)
  have s1 := SkP.kept (UP.out.below HB0.out) hkt1 (fun q hq hs => hq hs)
  have cells := bx1.cells10
  obtain ⟨_, _, _, c3, c4, c5, c6, c7, c8, c9⟩ := cells
  have Q1 := Aside0.mk hr1
  have KP1 := Aside0.mk hkp1
  have S1 := Aside0.mk s1
  clear hr1 hkp1 hkt1 bx1 s1
  go_wp2_with fail
  clear c3 c4 c5 c6 c7 c8 c9
  refine (K2.out _ S1.out (Nat.le_trans HB0.out.size KP1.out.kept.1)).mono ?_
  rintro e w2 ⟨rfl, hs2, hkp2, hkt2⟩
  have q2 : Kd.R k70 70 w2 a (fun k => k < b) (.slice q.A q.n q.c) ml := Kd.R_reok rfl (Kd.R_kept (Kd.R_tight rfl Q1.out) hkt2 (fun k hk hn => hn hk)) (fun k hk => Q1.out.1 k hk)
  have E2 := Aside0.mk (show Ek w2 a b q x y z ml _ _ _ from ⟨q2, hs2⟩)
  have KP2 := Aside0.mk (((Kp.of HB0.out).trans KP1.out).trans hkp2)
  clear hs2 hkp2 hkt2 q2
  go_wp2
  go_ret
  exact ⟨rfl, E2.out, KP2.out⟩
set_option maxHeartbeats 4000000 in
theorem markT_call (k : Nat) (hm : Aside0 (MkI k)) {w : World} {a b : Nat} {x y z : Sl} {h r : List Int} {R : List (List Int)} (sq cl ke wi c s lo hi k0 M : Int) (u : Sk w a b x y z h r R) (ha : a ≤ w.heap.size) (hb : b ≤ w.heap.size)
    (hk0 : 0 ≤ k0) (lm : Aside0 (k0 + (h.length : Int) + (r.length : Int) + (lensII R : Nat) = M ∧ M ≤ 1073741824 ∧ h.length ≤ 1048576 ∧ r.length ≤ 1048576 ∧ R.length ≤ 1048576 ∧ ∀ l ∈ R, l.length ≤ 1048576)) :
    Calls Try.prog 23 #[.agg #[.int .i64 sq, .int .i64 cl, .int .i64 ke, .int .i64 wi, .int .i64 c, .int .i64 s, .int .i64 lo, .int .i64 hi, .slice x.A x.n x.c, .slice y.A y.n y.c, .slice z.A z.n z.c], .int .i64 k0] w fun e w' => e = .returned (.int .i64 M) ∧
      Sk w' a b x y z (marksI k0 h.length) (marksI (k0 + (h.length : Int)) r.length) (marksII (k0 + (h.length : Int) + (r.length : Int)) R) ∧ Kp w w' a b := by
  have hb0 : Below w.heap.size w (w.alloc (.cells #[.int .i64 sq, .int .i64 cl, .int .i64 ke, .int .i64 wi, .int .i64 c, .int .i64 s, .int .i64 lo, .int .i64 hi, .slice x.A x.n x.c, .slice y.A y.n y.c, .slice z.A z.n z.c] 29)) := below_alloc (Below.refl _ _) _
  have call1 := mark_callM k hm c s lo hi k0 M (u.below hb0) (Nat.le_trans ha hb0.size) (Nat.le_trans hb hb0.size) hk0 lm
  have HB0 := Aside0.mk hb0
  have K1 := Aside0.mk call1
  clear hb0 call1 u lm ha hb hk0
  go_enter Try.func23, Try.ntmps23
  go_wp2_with fail
  refine K1.out.mono ?_
  rintro e w1 ⟨rfl, hs1, hkp1⟩
  have S1 := Aside0.mk hs1
  have KP1 := Aside0.mk ((Kp.of HB0.out).trans hkp1)
  clear hs1 hkp1
  go_wp2
  go_ret
  exact ⟨rfl, S1.out, KP1.out⟩
theorem toT_callD (k : Nat) {w : World} {x y z : Sl} {h r : List Int} {R : List (List Int)} (sq cl ke wi c s lo hi : Int) (u : Rd w x y z h r R) (he : laws_toItem.f k sq cl ke wi c s lo hi h r R = some (sq, cl, ke, wi, c, s, lo, hi, h, r, R)) :
    Calls Try.prog 20 #[.agg #[.int .i64 sq, .int .i64 cl, .int .i64 ke, .int .i64 wi, .int .i64 c, .int .i64 s, .int .i64 lo, .int .i64 hi, .slice x.A x.n x.c, .slice y.A y.n y.c, .slice z.A z.n z.c]] w fun e w' => ∃ (x' y' z' : Sl) (a b : Nat), e = .returned (.agg #[.int .i64 sq, .int .i64 cl, .int .i64 ke, .int .i64 wi, .int .i64 c, .int .i64 s, .int .i64 lo, .int .i64 hi, .slice x'.A x'.n x'.c, .slice y'.A y'.n y'.c, .slice z'.A z'.n z'.c]) ∧ Sk w' a b x' y' z' h r R ∧ Made w w' a b ∧ Below w.heap.size w w' := by
  rw [u.e4, u.e5, u.e6]
  refine (laws_toItem.calls k sq cl ke wi c s lo hi _ _ h _ _ r _ _ R sq cl ke wi c s lo hi h r R w u.C4 u.l4 u.C5 u.l5 u.C6 u.l6 he).mono ?_
  rintro e w' ⟨v4, v5, v6, rfl, h4, h5, h6, hb⟩
  obtain ⟨x', y', z', rfl, rfl, rfl, hs⟩ := Sk.of h4 h5 h6 (fun _ hk => hk) (fun _ hk => hk)
  exact ⟨x', y', z', _, _, rfl, hs, ⟨Nat.le_refl _, hb.size, Nat.le_refl _⟩, hb⟩

theorem szT_callD (k : Nat) {w : World} {x y z : Sl} {h r : List Int} {R : List (List Int)} (sq cl ke wi c s lo hi k0 k1 : Int) (u : Rd w x y z h r R) (he : laws_szItem.f k sq cl ke wi c s lo hi h r R k0 = some k1) :
    Calls Try.prog 19 #[.agg #[.int .i64 sq, .int .i64 cl, .int .i64 ke, .int .i64 wi, .int .i64 c, .int .i64 s, .int .i64 lo, .int .i64 hi, .slice x.A x.n x.c, .slice y.A y.n y.c, .slice z.A z.n z.c], .int .i64 k0] w fun e w' => e = .returned (.int .i64 k1) ∧ Below w.heap.size w w' := by
  rw [u.e4, u.e5, u.e6]
  exact laws_szItem.calls k sq cl ke wi c s lo hi _ _ h _ _ r _ _ R k0 k1 w u.C4 u.l4 u.C5 u.l5 u.C6 u.l6 he

theorem eqT_callD (k : Nat) {w : World} {x y z x' y' z' : Sl} {h r : List Int} {R : List (List Int)} (sq cl ke wi c s lo hi : Int) (u : Rd w x y z h r R) (u' : Rd w x' y' z' h r R) (he : laws_eqItem.f k sq cl ke wi c s lo hi h r R sq cl ke wi c s lo hi h r R = some true) :
    Calls Try.prog 22 #[.agg #[.int .i64 sq, .int .i64 cl, .int .i64 ke, .int .i64 wi, .int .i64 c, .int .i64 s, .int .i64 lo, .int .i64 hi, .slice x.A x.n x.c, .slice y.A y.n y.c, .slice z.A z.n z.c], .agg #[.int .i64 sq, .int .i64 cl, .int .i64 ke, .int .i64 wi, .int .i64 c, .int .i64 s, .int .i64 lo, .int .i64 hi, .slice x'.A x'.n x'.c, .slice y'.A y'.n y'.c, .slice z'.A z'.n z'.c]] w fun e w' => e = .returned (.bool true) ∧ Below w.heap.size w w' := by
  rw [u.e4, u.e5, u.e6, u'.e4, u'.e5, u'.e6]
  exact laws_eqItem.calls k sq cl ke wi c s lo hi _ _ h _ _ r _ _ R sq cl ke wi c s lo hi _ _ h _ _ r _ _ R true w u.C4 u.l4 u.C5 u.l5 u.C6 u.l6 u'.C4 u'.l4 u'.C5 u'.l5 u'.C6 u'.l6 ⟨rfl⟩ he

theorem eqE_callD (k : Nat) {w : World} {q x y z q' x' y' z' : Sl} {l : List S70} {h r : List Int} {R : List (List Int)} (ke wi c s lo hi : Int) (u : Ed w q x y z l h r R) (u' : Ed w q' x' y' z' l h r R) (he : laws_eqEntry.f k ke wi l c s lo hi h r R ke wi l c s lo hi h r R = some true) :
    Calls Try.prog 21 #[.agg #[.int .i64 ke, .int .i64 wi, .slice q.A q.n q.c, .int .i64 c, .int .i64 s, .int .i64 lo, .int .i64 hi, .slice x.A x.n x.c, .slice y.A y.n y.c, .slice z.A z.n z.c], .agg #[.int .i64 ke, .int .i64 wi, .slice q'.A q'.n q'.c, .int .i64 c, .int .i64 s, .int .i64 lo, .int .i64 hi, .slice x'.A x'.n x'.c, .slice y'.A y'.n y'.c, .slice z'.A z'.n z'.c]] w fun e w' => e = .returned (.bool true) ∧ Below w.heap.size w w' := by
  rw [u.q.e, u.s.e4, u.s.e5, u.s.e6, u'.q.e, u'.s.e4, u'.s.e5, u'.s.e6]
  exact laws_eqEntry.calls k ke wi _ _ l c s lo hi _ _ h _ _ r _ _ R ke wi _ _ l c s lo hi _ _ h _ _ r _ _ R true w u.q.C u.q.le u.s.C4 u.s.l4 u.s.C5 u.s.l5 u.s.C6 u.s.l6 u'.q.C u'.q.le u'.s.C4 u'.s.l4 u'.s.C5 u'.s.l5 u'.s.C6 u'.s.l6 ⟨rfl⟩ he

theorem heldE_callD (k : Nat) {w : World} {q x y z : Sl} {l : List S70} {h r : List Int} {R : List (List Int)} (ke wi c s lo hi k0 k1 : Int) (u : Ed w q x y z l h r R) (he : laws_heldEntry.f k ke wi l c s lo hi h r R k0 = some k1) :
    Calls Try.prog 25 #[.agg #[.int .i64 ke, .int .i64 wi, .slice q.A q.n q.c, .int .i64 c, .int .i64 s, .int .i64 lo, .int .i64 hi, .slice x.A x.n x.c, .slice y.A y.n y.c, .slice z.A z.n z.c], .int .i64 k0] w fun e w' => e = .returned (.int .i64 k1) ∧ Below w.heap.size w w' := by
  rw [u.q.e, u.s.e4, u.s.e5, u.s.e6]
  exact laws_heldEntry.calls k ke wi _ _ l c s lo hi _ _ h _ _ r _ _ R k0 k1 w u.q.C u.q.le u.s.C4 u.s.l4 u.s.C5 u.s.l5 u.s.C6 u.s.l6 he
theorem specE_callD (k : Nat) {w : World} {x y z : Sl} {h r : List Int} {R : List (List Int)} (ag sq cl ke wi c s lo hi e1 e2 c1 s1 lo1 hi1 : Int) (l1 : List S70) (h1 r1 : List Int) (R1 : List (List Int)) (t : Bool) (u : Rd w x y z h r R) (he : spec_EntryOf.f k ag sq cl ke wi c s lo hi h r R = some (e1, e2, l1, c1, s1, lo1, hi1, h1, r1, R1, t)) :
    Calls Try.prog 10 #[.int .i64 ag, .agg #[.int .i64 sq, .int .i64 cl, .int .i64 ke, .int .i64 wi, .int .i64 c, .int .i64 s, .int .i64 lo, .int .i64 hi, .slice x.A x.n x.c, .slice y.A y.n y.c, .slice z.A z.n z.c]] w fun e w' => ∃ (q' x' y' z' : Sl) (a b : Nat), e = .returned (.tuple #[.agg #[.int .i64 e1, .int .i64 e2, .slice q'.A q'.n q'.c, .int .i64 c1, .int .i64 s1, .int .i64 lo1, .int .i64 hi1, .slice x'.A x'.n x'.c, .slice y'.A y'.n y'.c, .slice z'.A z'.n z'.c], .bool t]) ∧ Ek w' a b q' x' y' z' l1 h1 r1 R1 ∧ Made w w' a b ∧ Below w.heap.size w w' := by
  rw [u.e4, u.e5, u.e6]
  refine (spec_EntryOf.calls k ag sq cl ke wi c s lo hi _ _ h _ _ r _ _ R e1 e2 l1 c1 s1 lo1 hi1 h1 r1 R1 t w u.C4 u.l4 u.C5 u.l5 u.C6 u.l6 he).mono ?_
  rintro e w' ⟨v2, v4, v5, v6, rfl, h2, h4, h5, h6, hb⟩
  obtain ⟨q', x', y', z', rfl, rfl, rfl, rfl, hs⟩ := Ek.of h2 h4 h5 h6 (fun _ hk => hk) (fun _ hk => hk)
  exact ⟨q', x', y', z', _, _, rfl, hs, ⟨Nat.le_refl _, hb.size, Nat.le_refl _⟩, hb⟩

theorem implE_callD (k : Nat) {w : World} {x y z : Sl} {h r : List Int} {R : List (List Int)} (ag sq cl ke wi c s lo hi e1 e2 c1 s1 lo1 hi1 : Int) (l1 : List S70) (h1 r1 : List Int) (R1 : List (List Int)) (t : Bool) (u : Rd w x y z h r R) (he : impl_EntryOf.f k ag sq cl ke wi c s lo hi h r R = some (e1, e2, l1, c1, s1, lo1, hi1, h1, r1, R1, t)) :
    Calls Try.prog 9 #[.int .i64 ag, .agg #[.int .i64 sq, .int .i64 cl, .int .i64 ke, .int .i64 wi, .int .i64 c, .int .i64 s, .int .i64 lo, .int .i64 hi, .slice x.A x.n x.c, .slice y.A y.n y.c, .slice z.A z.n z.c]] w fun e w' => ∃ (q' x' y' z' : Sl) (a b : Nat), e = .returned (.tuple #[.agg #[.int .i64 e1, .int .i64 e2, .slice q'.A q'.n q'.c, .int .i64 c1, .int .i64 s1, .int .i64 lo1, .int .i64 hi1, .slice x'.A x'.n x'.c, .slice y'.A y'.n y'.c, .slice z'.A z'.n z'.c], .bool t]) ∧ Ek w' a b q' x' y' z' l1 h1 r1 R1 ∧ Made w w' a b ∧ Below w.heap.size w w' := by
  rw [u.e4, u.e5, u.e6]
  refine (impl_EntryOf.calls k ag sq cl ke wi c s lo hi _ _ h _ _ r _ _ R e1 e2 l1 c1 s1 lo1 hi1 h1 r1 R1 t w u.C4 u.l4 u.C5 u.l5 u.C6 u.l6 he).mono ?_
  rintro e w' ⟨v2, v4, v5, v6, rfl, h2, h4, h5, h6, hb⟩
  obtain ⟨q', x', y', z', rfl, rfl, rfl, rfl, hs⟩ := Ek.of h2 h4 h5 h6 (fun _ hk => hk) (fun _ hk => hk)
  exact ⟨q', x', y', z', _, _, rfl, hs, ⟨Nat.le_refl _, hb.size, Nat.le_refl _⟩, hb⟩
theorem toIntS_at (x0 : List Int) (hn : x0.length ≤ 1048576) (d : Nat) : ∀ (i : Nat) (x3 : List Int), i + d = x0.length → x3.length = x0.length → x3.take i = x0.take i →
    Ev (fun k => laws_toIntS.l0 k x0 x3 (i : Int)) x0 := by
  induction d with
  | zero =>
    intro i x3 hi hl ht
    refine Ev.step (fun _ => rfl) ?_
    simp only [laws_toIntS.l0]
    refine ev_neg (by omega) (ev_some (take_all hl (by omega) ht))
  | succ d ih =>
    intro i x3 hi hl ht
    refine Ev.step (fun _ => rfl) ?_
    simp only [laws_toIntS.l0]
    refine ev_pos (by omega) (ev_pos (by omega) (ev_pos (by omega) ?_))
    rw [wsucc (by omega), rd_get (show i < x0.length by omega), Int.toNat_natCast]
    exact ih (i + 1) _ (by omega) (by simp [hl]) (take_set hl (by omega) ht)
theorem toIntS_ev (x0 : List Int) (hn : x0.length ≤ 1048576) : Ev (fun k => laws_toIntS.f k x0) x0 := by
  unfold laws_toIntS.f
  refine ev_pos (by omega) (ev_pos (by omega) ?_)
  exact toIntS_at x0 hn x0.length 0 _ (by omega) (by simp) (by simp)
theorem eqIntS_at (x0 : List Int) (hn : x0.length ≤ 1048576) (d : Nat) : ∀ (i : Nat), i + d = x0.length →
    Ev (fun k => laws_eqIntS.l0 k x0 x0 (i : Int)) true := by
  induction d with
  | zero =>
    intro i hi
    refine Ev.step (fun _ => rfl) ?_
    simp only [laws_eqIntS.l0]
    refine ev_neg (by omega) (ev_some rfl)
  | succ d ih =>
    intro i hi
    refine Ev.step (fun _ => rfl) ?_
    simp only [laws_eqIntS.l0]
    refine ev_pos (by omega) (ev_pos (by omega) (ev_pos (by omega) (ev_pos (by trivial) ?_)))
    rw [wsucc (by omega)]
    exact ih (i + 1) (by omega)
theorem eqIntS_ev (x0 : List Int) (hn : x0.length ≤ 1048576) : Ev (fun k => laws_eqIntS.f k x0 x0) true := by
  unfold laws_eqIntS.f
  exact ev_pos (by trivial) (eqIntS_at x0 hn x0.length 0 (by omega))
theorem toIntSS_at (x0 : List (List Int)) (hn : x0.length ≤ 1048576) (hx : ∀ x ∈ x0, x.length ≤ 1048576) (d : Nat) : ∀ (i : Nat) (x3 : List (List Int)), i + d = x0.length → x3.length = x0.length → x3.take i = x0.take i →
    Ev (fun k => laws_toIntSS.l0 k x0 x3 (i : Int)) x0 := by
  induction d with
  | zero =>
    intro i x3 hi hl ht
    refine Ev.step (fun _ => rfl) ?_
    simp only [laws_toIntSS.l0]
    refine ev_neg (by omega) (ev_some (take_all hl (by omega) ht))
  | succ d ih =>
    intro i x3 hi hl ht
    refine Ev.step (fun _ => rfl) ?_
    simp only [laws_toIntSS.l0]
    rw [wsucc (by omega), rdR_get (show i < x0.length by omega), Int.toNat_natCast]
    refine ev_pos (by omega) (ev_pos (by omega) (Ev.bind (toIntS_ev _ (hx _ (List.getElem_mem (by omega)))) (ev_pos (by omega) ?_)))
    exact ih (i + 1) _ (by omega) (by simp [hl]) (take_set hl (by omega) ht)
theorem toIntSS_ev (x0 : List (List Int)) (hn : x0.length ≤ 1048576) (hx : ∀ x ∈ x0, x.length ≤ 1048576) : Ev (fun k => laws_toIntSS.f k x0) x0 := by
  unfold laws_toIntSS.f
  refine ev_pos (by omega) (ev_pos (by omega) ?_)
  exact toIntSS_at x0 hn hx x0.length 0 _ (by omega) (by simp) (by simp)
theorem toSketch_ev (c s mn mx : Int) (h r : List Int) (R : List (List Int)) (hh : h.length ≤ 1048576) (hr : r.length ≤ 1048576) (hR : R.length ≤ 1048576) (hx : ∀ x ∈ R, x.length ≤ 1048576) :
    Ev (fun k => laws_toSketch.f k c s mn mx h r R) (c, s, mn, mx, h, r, R) := by
  unfold laws_toSketch.f
  exact Ev.bind (toIntS_ev h hh) (Ev.bind (toIntS_ev r hr) (Ev.bind (toIntSS_ev R hR hx) (ev_some rfl)))
theorem szIntS_is (l0 : List Int) (a : Int) (h0 : 0 ≤ a) (h1 : a ≤ 1048576) (hl : l0.length ≤ 9223372036854775807) : laws_szIntS.f l0 a = some (if a < l0.length then -1 else a - l0.length) := by
  unfold laws_szIntS.f
  rw [w64 (by omega) (by omega)]
  by_cases h : a < l0.length
  · rw [if_pos (by omega), if_pos h]
  · rw [if_neg (by omega), if_neg h]
theorem szIntSS_at (R : List (List Int)) (hR : R.length ≤ 1048576) (hx : ∀ x ∈ R, x.length ≤ 9223372036854775807) (d : Nat) : ∀ (i : Nat) (a : Int), i + d = R.length → 0 ≤ a → a ≤ 1048576 →
    ∃ v, Ev (fun k => laws_szIntSS.l0 k R a (i : Int)) v ∧ v ≤ a ∧ (0 ≤ v → ∀ x ∈ R.drop i, x.length ≤ 1048576) := by
  induction d with
  | zero =>
    intro i a hi h0 h1
    refine ⟨a, Ev.step (fun _ => rfl) ?_, Int.le_refl _, fun _ x hxx => ?_⟩
    · simp only [laws_szIntSS.l0]
      exact ev_neg (by omega) (ev_some rfl)
    · rw [List.drop_of_length_le (by omega)] at hxx
      cases hxx
  | succ d ih =>
    intro i a hi h0 h1
    have hg : i < R.length := by omega
    have hb := hx R[i] (List.getElem_mem hg)
    by_cases hs : a < (R[i]).length
    · refine ⟨-1, Ev.step (fun _ => rfl) ?_, by omega, fun h => by omega⟩
      simp only [laws_szIntSS.l0]
      rw [rdR_get hg]
      refine ev_pos (by omega) (ev_pos (by omega) (ev_bind0 (szIntS_is _ _ h0 h1 hb) ?_))
      rw [if_pos hs]
      exact ev_pos (by omega) (ev_some rfl)
    · obtain ⟨v, hv, hle, hall⟩ := ih (i + 1) (a - (R[i]).length) (by omega) (by omega) (by omega)
      refine ⟨v, Ev.step (fun _ => rfl) ?_, by omega, fun h x hxx => ?_⟩
      · simp only [laws_szIntSS.l0]
        rw [rdR_get hg, wsucc (by omega)]
        refine ev_pos (by omega) (ev_pos (by omega) (ev_bind0 (szIntS_is _ _ h0 h1 hb) ?_))
        rw [if_neg hs]
        exact ev_neg (by omega) hv
      · rw [List.drop_eq_getElem_cons hg] at hxx
        rcases List.mem_cons.1 hxx with rfl | hxx
        · omega
        · exact hall h x hxx
theorem szSketch_ev (c s mn mx : Int) (h r : List Int) (R : List (List Int)) (a : Int) (h0 : 0 ≤ a) (h1 : a ≤ 1048576) (hh : h.length ≤ 9223372036854775807) (hr : r.length ≤ 9223372036854775807) (hR : R.length ≤ 9223372036854775807) (hx : ∀ x ∈ R, x.length ≤ 9223372036854775807) :
    ∃ v, Ev (fun k => laws_szSketch.f k c s mn mx h r R a) v ∧ v ≤ a ∧ (0 ≤ v → h.length ≤ 1048576 ∧ r.length ≤ 1048576 ∧ R.length ≤ 1048576 ∧ ∀ x ∈ R, x.length ≤ 1048576) := by
  by_cases a1 : a < h.length
  · refine ⟨-1, ?_, by omega, fun h => by omega⟩
    unfold laws_szSketch.f
    refine ev_bind0 (szIntS_is h a h0 h1 hh) ?_
    rw [if_pos a1]
    exact ev_pos (by omega) (ev_some rfl)
  by_cases a2 : a - h.length < r.length
  · refine ⟨-1, ?_, by omega, fun h => by omega⟩
    unfold laws_szSketch.f
    refine ev_bind0 (szIntS_is h a h0 h1 hh) ?_
    rw [if_neg a1]
    refine ev_neg (by omega) (ev_bind0 (szIntS_is r _ (by omega) (by omega) hr) ?_)
    rw [if_pos a2]
    exact ev_pos (by omega) (ev_some rfl)
  by_cases a3 : a - h.length - r.length < R.length
  · refine ⟨-1, ?_, by omega, fun h => by omega⟩
    unfold laws_szSketch.f
    refine ev_bind0 (szIntS_is h a h0 h1 hh) ?_
    rw [if_neg a1]
    refine ev_neg (by omega) (ev_bind0 (szIntS_is r _ (by omega) (by omega) hr) ?_)
    rw [if_neg a2]
    refine ev_neg (by omega) (Ev.bind (a := -1) ?_ (ev_pos (by omega) (ev_some rfl)))
    unfold laws_szIntSS.f
    have e : wrap64 (a - h.length - r.length - R.length) = a - h.length - r.length - R.length := w64 (by omega) (by omega)
    rw [e]
    clear e
    exact ev_pos (by omega) (ev_some rfl)
  obtain ⟨v, hv, hle, hall⟩ := szIntSS_at R (by omega) hx R.length 0 (a - h.length - r.length - R.length) (by omega) (by omega) (by omega)
  rw [List.drop_zero] at hall
  have hin : Ev (fun k => laws_szIntSS.f k R (a - h.length - r.length)) v := by
    unfold laws_szIntSS.f
    have e : wrap64 (a - h.length - r.length - R.length) = a - h.length - r.length - R.length := w64 (by omega) (by omega)
    rw [e]
    clear e
    exact ev_neg (by omega) hv
  have hout : ∀ u, Ev (fun _ => if v < 0 then some (-1) else some v) u → Ev (fun k => laws_szSketch.f k c s mn mx h r R a) u := by
    intro u hu
    unfold laws_szSketch.f
    refine ev_bind0 (szIntS_is h a h0 h1 hh) ?_
    rw [if_neg a1]
    refine ev_neg (by omega) (ev_bind0 (szIntS_is r _ (by omega) (by omega) hr) ?_)
    rw [if_neg a2]
    exact ev_neg (by omega) (Ev.bind hin hu)
  by_cases hneg : v < 0
  · exact ⟨-1, hout _ (ev_pos hneg (ev_some rfl)), by omega, fun h => by omega⟩
  · exact ⟨v, hout _ (ev_neg hneg (ev_some rfl)), by omega, fun h => ⟨by omega, by omega, by omega, hall h⟩⟩
theorem eqIntSS_at (x0 : List (List Int)) (hn : x0.length ≤ 1048576) (hx : ∀ x ∈ x0, x.length ≤ 1048576) (d : Nat) : ∀ (i : Nat), i + d = x0.length →
    Ev (fun k => laws_eqIntSS.l0 k x0 x0 (i : Int)) true := by
  induction d with
  | zero =>
    intro i hi
    refine Ev.step (fun _ => rfl) ?_
    simp only [laws_eqIntSS.l0]
    refine ev_neg (by omega) (ev_some rfl)
  | succ d ih =>
    intro i hi
    refine Ev.step (fun _ => rfl) ?_
    simp only [laws_eqIntSS.l0]
    rw [wsucc (by omega), rdR_get (show i < x0.length by omega)]
    refine ev_pos (by omega) (ev_pos (by omega) (ev_pos (by omega) (Ev.bind (eqIntS_ev _ (hx _ (List.getElem_mem (by omega)))) (ev_pos (by trivial) ?_))))
    exact ih (i + 1) (by omega)
theorem eqIntSS_ev (x0 : List (List Int)) (hn : x0.length ≤ 1048576) (hx : ∀ x ∈ x0, x.length ≤ 1048576) : Ev (fun k => laws_eqIntSS.f k x0 x0) true := by
  unfold laws_eqIntSS.f
  exact ev_pos (by trivial) (eqIntSS_at x0 hn hx x0.length 0 (by omega))
theorem eqSketch_ev (c s mn mx : Int) (h r : List Int) (R : List (List Int)) (hh : h.length ≤ 1048576) (hr : r.length ≤ 1048576) (hR : R.length ≤ 1048576) (hx : ∀ x ∈ R, x.length ≤ 1048576) :
    Ev (fun k => laws_eqSketch.f k c s mn mx h r R c s mn mx h r R) true := by
  unfold laws_eqSketch.f
  refine ev_pos (by trivial) (ev_pos (by trivial) (ev_pos (by trivial) (ev_pos (by trivial) ?_)))
  exact Ev.bind (eqIntS_ev h hh) (ev_pos (by trivial) (Ev.bind (eqIntS_ev r hr) (ev_pos (by trivial) (Ev.bind (eqIntSS_ev R hR hx) (ev_pos (by trivial) (ev_some rfl))))))
theorem eqSpanS_at (x0 : List S70) (hn : x0.length ≤ 1048576) (d : Nat) : ∀ (i : Nat), i + d = x0.length →
    Ev (fun k => laws_eqSpanS.l0 k x0 x0 (i : Int)) true := by
  induction d with
  | zero =>
    intro i hi
    refine Ev.step (fun _ => rfl) ?_
    simp only [laws_eqSpanS.l0]
    exact ev_neg (by omega) (ev_some rfl)
  | succ d ih =>
    intro i hi
    refine Ev.step (fun _ => rfl) ?_
    simp only [laws_eqSpanS.l0]
    refine ev_pos (by omega) (ev_pos (by omega) (ev_pos (by omega) (ev_bind0 (a := true) (by unfold laws_eqSpan.f; rw [if_pos rfl, if_pos rfl]) (ev_pos (by trivial) ?_))))
    rw [wsucc (by omega)]
    exact ih (i + 1) (by omega)
theorem eqSpanS_ev (x0 : List S70) (hn : x0.length ≤ 1048576) : Ev (fun k => laws_eqSpanS.f k x0 x0) true := by
  unfold laws_eqSpanS.f
  exact ev_pos (by trivial) (eqSpanS_at x0 hn x0.length 0 (by omega))
theorem eqEntry_ev (ke wi : Int) (ids : List S70) (c s mn mx : Int) (h r : List Int) (R : List (List Int)) (hI : ids.length ≤ 1048576) (hh : h.length ≤ 1048576) (hr : r.length ≤ 1048576) (hR : R.length ≤ 1048576) (hx : ∀ x ∈ R, x.length ≤ 1048576) :
    Ev (fun k => laws_eqEntry.f k ke wi ids c s mn mx h r R ke wi ids c s mn mx h r R) true := by
  unfold laws_eqEntry.f
  exact ev_pos (by trivial) (ev_pos (by trivial) (Ev.bind (eqSpanS_ev ids hI) (ev_pos (by trivial) (Ev.bind (eqSketch_ev c s mn mx h r R hh hr hR hx) (ev_pos (by trivial) (ev_some rfl))))))
theorem lensII_drop (R : List (List Int)) (i : Nat) (h : i < R.length) : lensII (R.drop i) = R[i].length + lensII (R.drop (i + 1)) := by
  rw [List.drop_eq_getElem_cons h]
  rfl
theorem szIntSS_sum (R : List (List Int)) (hR : R.length ≤ 1048576) (hx : ∀ x ∈ R, x.length ≤ 9223372036854775807) (d : Nat) : ∀ (i : Nat) (a : Int), i + d = R.length → 0 ≤ a → a ≤ 1048576 →
    ∃ v, Ev (fun k => laws_szIntSS.l0 k R a (i : Int)) v ∧ (0 ≤ v → (lensII (R.drop i) : Int) + v ≤ a) := by
  induction d with
  | zero =>
    intro i a hi h0 h1
    refine ⟨a, Ev.step (fun _ => rfl) ?_, fun _ => ?_⟩
    · simp only [laws_szIntSS.l0]
      exact ev_neg (by omega) (ev_some rfl)
    · rw [List.drop_of_length_le (by omega)]
      simp [lensII]
  | succ d ih =>
    intro i a hi h0 h1
    have hg : i < R.length := by omega
    have hb := hx R[i] (List.getElem_mem hg)
    by_cases hs : a < (R[i]).length
    · refine ⟨-1, Ev.step (fun _ => rfl) ?_, fun h => by omega⟩
      simp only [laws_szIntSS.l0]
      rw [rdR_get hg]
      refine ev_pos (by omega) (ev_pos (by omega) (ev_bind0 (szIntS_is _ _ h0 h1 hb) ?_))
      rw [if_pos hs]
      exact ev_pos (by omega) (ev_some rfl)
    · obtain ⟨v, hv, hall⟩ := ih (i + 1) (a - (R[i]).length) (by omega) (by omega) (by omega)
      refine ⟨v, Ev.step (fun _ => rfl) ?_, fun h => ?_⟩
      · simp only [laws_szIntSS.l0]
        rw [rdR_get hg, wsucc (by omega)]
        refine ev_pos (by omega) (ev_pos (by omega) (ev_bind0 (szIntS_is _ _ h0 h1 hb) ?_))
        rw [if_neg hs]
        exact ev_neg (by omega) hv
      · have := hall h
        have := lensII_drop R i hg
        omega
theorem ev_one {α : Type} {g : Nat → Option α} {a b : α} (h : Ev g a) (k : Ev g b) : a = b := by
  obtain ⟨K, hK⟩ := h
  obtain ⟨L, hL⟩ := k
  have h1 := hK (K + L) (by omega)
  rw [hL (K + L) (by omega)] at h1
  exact (Option.some.inj h1).symm
theorem szSketch_all (c s mn mx : Int) (h r : List Int) (R : List (List Int)) (a : Int) (h0 : 0 ≤ a) (h1 : a ≤ 1048576) (hh : h.length ≤ 9223372036854775807) (hr : r.length ≤ 9223372036854775807) (hR : R.length ≤ 9223372036854775807) (hx : ∀ x ∈ R, x.length ≤ 9223372036854775807) :
    ∃ v, Ev (fun k => laws_szSketch.f k c s mn mx h r R a) v ∧ v ≤ a ∧ (0 ≤ v → (h.length ≤ 1048576 ∧ r.length ≤ 1048576 ∧ R.length ≤ 1048576 ∧ ∀ x ∈ R, x.length ≤ 1048576) ∧ (h.length : Int) + r.length + lensII R + v ≤ a) := by
  obtain ⟨v, hv, hle, hall⟩ := szSketch_ev c s mn mx h r R a h0 h1 hh hr hR hx
  refine ⟨v, hv, hle, fun hp => ⟨hall hp, ?_⟩⟩
  obtain ⟨b1, b2, b3, b4⟩ := hall hp
  have key : ∃ u, Ev (fun k => laws_szSketch.f k c s mn mx h r R a) u ∧ (0 ≤ u → (h.length : Int) + r.length + lensII R + u ≤ a) := by
    unfold laws_szSketch.f
    by_cases g1 : a < h.length
    · refine ⟨-1, ev_bind0 (szIntS_is h a h0 h1 hh) ?_, fun h => by omega⟩
      rw [if_pos g1]
      exact ev_pos (by omega) (ev_some rfl)
    · by_cases g2 : a - h.length < r.length
      · refine ⟨-1, ev_bind0 (szIntS_is h a h0 h1 hh) ?_, fun h => by omega⟩
        rw [if_neg g1]
        refine ev_neg (by omega) (ev_bind0 (szIntS_is r _ (by omega) (by omega) hr) ?_)
        rw [if_pos g2]
        exact ev_pos (by omega) (ev_some rfl)
      · have hsz : ∃ u, Ev (fun k => laws_szIntSS.f k R (a - h.length - r.length)) u ∧ (0 ≤ u → (lensII R : Int) + u ≤ a - h.length - r.length) := by
          unfold laws_szIntSS.f
          rw [w64 (x := a - h.length - r.length - R.length) (by omega) (by omega)]
          by_cases g3 : a - h.length - r.length - R.length < 0
          · exact ⟨-1, ev_pos g3 (ev_some rfl), fun h => by omega⟩
          · obtain ⟨u, hu, hl⟩ := szIntSS_sum R b3 hx R.length 0 (a - h.length - r.length - R.length) (by omega) (by omega) (by omega)
            exact ⟨u, ev_neg g3 hu, fun hp => by have := hl hp; rw [List.drop_zero] at this; omega⟩
        obtain ⟨u, hu, hl⟩ := hsz
        by_cases g4 : u < 0
        · refine ⟨-1, ev_bind0 (szIntS_is h a h0 h1 hh) ?_, fun h => by omega⟩
          rw [if_neg g1]
          refine ev_neg (by omega) (ev_bind0 (szIntS_is r _ (by omega) (by omega) hr) ?_)
          rw [if_neg g2]
          exact ev_neg (by omega) (Ev.bind hu (ev_pos g4 (ev_some rfl)))
        · refine ⟨u, ev_bind0 (szIntS_is h a h0 h1 hh) ?_, fun hp => by have := hl hp; omega⟩
          rw [if_neg g1]
          refine ev_neg (by omega) (ev_bind0 (szIntS_is r _ (by omega) (by omega) hr) ?_)
          rw [if_neg g2]
          exact ev_neg (by omega) (Ev.bind hu (ev_neg g4 (ev_some rfl)))
  obtain ⟨u, hu, hl⟩ := key
  rw [ev_one hv hu]
  exact hl (by rw [← ev_one hv hu]; exact hp)
theorem toItem_ev (q cl ke wi c s mn mx : Int) (h r : List Int) (R : List (List Int)) (hh : h.length ≤ 1048576) (hr : r.length ≤ 1048576) (hR : R.length ≤ 1048576) (hx : ∀ x ∈ R, x.length ≤ 1048576) :
    Ev (fun k => laws_toItem.f k q cl ke wi c s mn mx h r R) (q, cl, ke, wi, c, s, mn, mx, h, r, R) := by
  unfold laws_toItem.f
  exact Ev.bind (toSketch_ev c s mn mx h r R hh hr hR hx) (ev_some rfl)
theorem eqItem_ev (q cl ke wi c s mn mx : Int) (h r : List Int) (R : List (List Int)) (hh : h.length ≤ 1048576) (hr : r.length ≤ 1048576) (hR : R.length ≤ 1048576) (hx : ∀ x ∈ R, x.length ≤ 1048576) :
    Ev (fun k => laws_eqItem.f k q cl ke wi c s mn mx h r R q cl ke wi c s mn mx h r R) true := by
  unfold laws_eqItem.f
  exact ev_pos (by trivial) (ev_pos (by trivial) (ev_pos (by trivial) (ev_pos (by trivial) (Ev.bind (eqSketch_ev c s mn mx h r R hh hr hR hx) (ev_pos (by trivial) (ev_some rfl))))))
theorem within_is (a b c : Int) : impl_within.f a b c = some (decide (b ≤ a ∧ a ≤ c)) := in_is a b c
theorem l1In_is (a b c : Int) : spec_l1In.f a b c = some (decide (b ≤ a ∧ a ≤ c)) := in_is a b c
def LiOk (xs : List Int) (n : Nat) (most : Int) (zero : Prop) : Prop := xs.length = n ∧ ∀ x ∈ xs, (0 ≤ x ∧ x ≤ most) ∧ (zero → x = 0)
def SkOk (c s mn mx : Int) (h r : List Int) (R : List (List Int)) : Prop :=
  (0 ≤ c ∧ c ≤ 1000000000) ∧ (0 ≤ s ∧ s ≤ 1000000000) ∧ (0 ≤ mn ∧ mn ≤ 1000000) ∧ (0 ≤ mx ∧ mx ≤ 1000000) ∧ mn ≤ mx ∧ R.length = 2 ∧ (c = 0 → s = 0 ∧ mx = 0) ∧
  LiOk h 8 1000000000 (c = 0) ∧ LiOk r 8 17 (c = 0) ∧ LiOk (rd_L1 R 0) 4 1000000000 (c = 0) ∧ LiOk (rd_L1 R 1) 4 1000000000 (c = 0)
noncomputable def skOk (c s mn mx : Int) (h r : List Int) (R : List (List Int)) : Bool := @decide (SkOk c s mn mx h r R) (Classical.propDecidable _)
theorem skOk_true {c s mn mx : Int} {h r : List Int} {R : List (List Int)} : skOk c s mn mx h r R = true ↔ SkOk c s mn mx h r R := by
  unfold skOk
  exact @decide_eq_true_iff _ (Classical.propDecidable _)
theorem skOk_false {c s mn mx : Int} {h r : List Int} {R : List (List Int)} (hn : ¬ SkOk c s mn mx h r R) : skOk c s mn mx h r R = false := by
  cases e : skOk c s mn mx h r R with
  | false => rfl
  | true => exact absurd (skOk_true.1 e) hn
theorem l3List_at (xs : List Int) (n : Nat) (most : Int) (z : Bool) (hn : n ≤ 8) (hl : xs.length = n) (r : Bool) (d : Nat) : ∀ i : Nat, i + d = n →
    ((∀ x ∈ xs.drop i, (0 ≤ x ∧ x ≤ most) ∧ (z = true → x = 0)) → r = true) → (¬ (∀ x ∈ xs.drop i, (0 ≤ x ∧ x ≤ most) ∧ (z = true → x = 0)) → r = false) →
    Ev (fun k => spec_l3List.l0 k xs (n : Int) most z (i : Int)) r := by
  induction d with
  | zero =>
    intro i hi h1 _
    refine Ev.step (fun _ => rfl) ?_
    simp only [spec_l3List.l0]
    refine ev_neg (by omega) (ev_some ?_)
    rw [h1]
    intro x hx
    rw [List.drop_of_length_le (by omega)] at hx
    cases hx
  | succ d ih =>
    intro i hi h1 h2
    have hg : i < xs.length := by omega
    rw [List.drop_eq_getElem_cons hg] at h1 h2
    refine Ev.step (fun _ => rfl) ?_
    simp only [spec_l3List.l0]
    rw [wsucc (by omega), rd_get hg]
    refine ev_pos (by omega) (ev_pos (by omega) (ev_pos (by omega) (ev_bind0 (l1In_is _ _ _) ?_)))
    by_cases c : 0 ≤ xs[i] ∧ xs[i] ≤ most
    · refine ev_pos (decide_eq_true c) ?_
      have hrec : (z = true → xs[i] = 0) → Ev (fun k => spec_l3List.l0 k xs (n : Int) most z ((i + 1 : Nat) : Int)) r := by
        intro hz
        refine ih (i + 1) (by omega) (fun h => h1 fun x hx => ?_) (fun h => h2 fun g => h fun x hx => g x (List.mem_cons_of_mem _ hx))
        rcases List.mem_cons.1 hx with rfl | hx
        · exact ⟨c, hz⟩
        · exact h x hx
      by_cases hz : z = true
      · refine ev_pos hz ?_
        by_cases h0 : xs[i] = 0
        · exact ev_pos h0 (hrec fun _ => h0)
        · refine ev_neg h0 (ev_some ?_)
          exact (h2 fun g => h0 ((g _ List.mem_cons_self).2 hz)).symm
      · exact ev_neg hz (hrec fun h => absurd h hz)
    · refine ev_neg (by rw [decide_eq_false c]; exact Bool.false_ne_true) (ev_some ?_)
      exact (h2 fun g => c (g _ List.mem_cons_self).1).symm
theorem l3List_ev (xs : List Int) (n : Nat) (most : Int) (z : Bool) (hn : n ≤ 8) (r : Bool) (h1 : LiOk xs n most (z = true) → r = true) (h2 : ¬ LiOk xs n most (z = true) → r = false) : Ev (fun k => spec_l3List.f k xs (n : Int) most z) r := by
  unfold spec_l3List.f
  by_cases hl : xs.length = n
  · exact ev_pos (by omega) (l3List_at xs n most z hn hl r n 0 (by omega) (fun h => h1 ⟨hl, h⟩) (fun h => h2 fun g => h g.2))
  · exact ev_neg (by omega) (ev_some (h2 fun g => hl g.1).symm)
theorem l3List_dec (xs : List Int) (n : Nat) (most : Int) (z : Bool) (hn : n ≤ 8) (Z : Prop) (hz : (z = true) = Z) : Ev (fun k => spec_l3List.f k xs (n : Int) most z) (@decide (LiOk xs n most Z) (Classical.propDecidable _)) := by
  subst hz
  exact l3List_ev xs n most z hn _ (fun h => @decide_eq_true _ (Classical.propDecidable _) h) (fun h => @decide_eq_false _ (Classical.propDecidable _) h)
theorem spec_sketchOk_j1 (c s mn mx : Int) (h r : List Int) (R : List (List Int)) (hR : R.length = 2) (f : Bool) (v : Bool)
    (hv : f = false → LiOk h 8 1000000000 (c = 0) → LiOk r 8 17 (c = 0) → LiOk (rd_L1 R 0) 4 1000000000 (c = 0) → LiOk (rd_L1 R 1) 4 1000000000 (c = 0) → v = true)
    (hn : ¬ (f = false ∧ LiOk h 8 1000000000 (c = 0) ∧ LiOk r 8 17 (c = 0) ∧ LiOk (rd_L1 R 0) 4 1000000000 (c = 0) ∧ LiOk (rd_L1 R 1) 4 1000000000 (c = 0)) → v = false) :
    Ev (fun k => spec_SketchOk.j1 k (c == 0) f c s mn mx h r R) v := by
  have ez : ((c == 0) = true) = (c = 0) := by simp
  refine Ev.step (fun _ => rfl) ?_
  simp only [spec_SketchOk.j1]
  refine ev_if (fun hf => ev_some (hn fun g => by rw [hf] at g; exact absurd g.1 (by simp)).symm) (fun hf => ?_)
  have hf' : f = false := by simpa using hf
  have L := fun xs n most hn => l3List_dec xs n most (c == 0) hn (c = 0) ez
  refine Ev.bind (L h 8 1000000000 (by omega)) ?_
  refine ev_if (fun g1 => ?_) (fun g1 => ev_some (hn fun g => g1 (@decide_eq_true _ (Classical.propDecidable _) g.2.1)).symm)
  refine Ev.bind (L r 8 17 (by omega)) ?_
  refine ev_if (fun g2 => ?_) (fun g2 => ev_some (hn fun g => g2 (@decide_eq_true _ (Classical.propDecidable _) g.2.2.1)).symm)
  refine ev_pos (by omega) (Ev.bind (L (rd_L1 R 0) 4 1000000000 (by omega)) ?_)
  refine ev_if (fun g3 => ?_) (fun g3 => ev_some (hn fun g => g3 (@decide_eq_true _ (Classical.propDecidable _) g.2.2.2.1)).symm)
  refine ev_pos (by omega) (Ev.bind (L (rd_L1 R 1) 4 1000000000 (by omega)) (ev_some ?_))
  have t1 := @of_decide_eq_true _ (Classical.propDecidable _) g1
  have t2 := @of_decide_eq_true _ (Classical.propDecidable _) g2
  have t3 := @of_decide_eq_true _ (Classical.propDecidable _) g3
  by_cases t4 : LiOk (rd_L1 R 1) 4 1000000000 (c = 0)
  · rw [hv hf' t1 t2 t3 t4]
    exact @decide_eq_true _ (Classical.propDecidable _) t4
  · rw [hn fun g => t4 g.2.2.2.2]
    exact @decide_eq_false _ (Classical.propDecidable _) t4
theorem spec_sketchOk_ev (c s mn mx : Int) (h r : List Int) (R : List (List Int)) : Ev (fun k => spec_SketchOk.f k c s mn mx h r R) (skOk c s mn mx h r R) := by
  have bad : ¬ SkOk c s mn mx h r R → Ev (fun k => spec_SketchOk.j0 k true c s mn mx h r R) (skOk c s mn mx h r R) := by
    intro hb
    refine Ev.step (fun _ => rfl) ?_
    simp only [spec_SketchOk.j0]
    exact ev_pos (by trivial) (ev_some (skOk_false hb).symm)
  unfold spec_SketchOk.f
  refine ev_bind0 (l1In_is _ _ _) ?_
  by_cases a1 : 0 ≤ c ∧ c ≤ 1000000000
  case neg => exact ev_neg (by rw [decide_eq_false a1]; exact Bool.false_ne_true) (bad fun g => a1 g.1)
  refine ev_pos (decide_eq_true a1) (ev_bind0 (l1In_is _ _ _) ?_)
  by_cases a2 : 0 ≤ s ∧ s ≤ 1000000000
  case neg => exact ev_neg (by rw [decide_eq_false a2]; exact Bool.false_ne_true) (bad fun g => a2 g.2.1)
  refine ev_pos (decide_eq_true a2) (ev_bind0 (l1In_is _ _ _) ?_)
  by_cases a3 : 0 ≤ mn ∧ mn ≤ 1000000
  case neg => exact ev_neg (by rw [decide_eq_false a3]; exact Bool.false_ne_true) (bad fun g => a3 g.2.2.1)
  refine ev_pos (decide_eq_true a3) (ev_bind0 (l1In_is _ _ _) ?_)
  by_cases a4 : 0 ≤ mx ∧ mx ≤ 1000000
  case neg => exact ev_neg (by rw [decide_eq_false a4]; exact Bool.false_ne_true) (bad fun g => a4 g.2.2.2.1)
  refine ev_pos (decide_eq_true a4) ?_
  by_cases a5 : mn ≤ mx
  case neg => exact ev_pos (by omega) (bad fun g => a5 g.2.2.2.2.1)
  refine ev_neg (by omega) ?_
  by_cases a6 : R.length = 2
  case neg =>
    have e : ((R.length : Int) != 2) = true := by simp; omega
    rw [e]
    exact bad fun g => a6 g.2.2.2.2.2.1
  have e : ((R.length : Int) != 2) = false := by simp; omega
  rw [e]
  refine Ev.step (fun _ => rfl) ?_
  simp only [spec_SketchOk.j0]
  refine ev_neg (by simp) ?_
  have fin : ∀ f : Bool, (f = false ↔ (c = 0 → s = 0 ∧ mx = 0)) → Ev (fun k => spec_SketchOk.j1 k (c == 0) f c s mn mx h r R) (skOk c s mn mx h r R) := by
    intro f hf
    refine spec_sketchOk_j1 c s mn mx h r R a6 f _ (fun g1 g2 g3 g4 g5 => skOk_true.2 ⟨a1, a2, a3, a4, a5, a6, hf.1 g1, g2, g3, g4, g5⟩) (fun g => skOk_false fun q => g ⟨hf.2 q.2.2.2.2.2.2.1, q.2.2.2.2.2.2.2⟩)
  refine ev_if (fun z => ?_) (fun z => fin false ⟨fun _ h => absurd h z, fun _ => rfl⟩)
  refine ev_if (fun z2 => fin _ ?_) (fun z2 => fin true ⟨fun h => by simp at h, fun h => absurd (h z).1 z2⟩)
  constructor
  · intro h _
    exact ⟨z2, by simpa using h⟩
  · intro h
    simpa using (h z).2
theorem sum_bd (ys : List Int) (h : ∀ x ∈ ys, 0 ≤ x ∧ x ≤ 1000000000) : 0 ≤ ys.sum ∧ ys.sum ≤ ys.length * 1000000000 := by
  induction ys with
  | nil => simp
  | cons y ys ih =>
    have h1 := h y List.mem_cons_self
    have h2 := ih fun x hx => h x (List.mem_cons_of_mem _ hx)
    rw [List.sum_cons, List.length_cons]
    omega
theorem sum_zero (ys : List Int) (h : ∀ x ∈ ys, 0 ≤ x ∧ x ≤ 1000000000) (h0 : ys.sum = 0) : ∀ x ∈ ys, x = 0 := by
  induction ys with
  | nil => exact fun x hx => by cases hx
  | cons y ys ih =>
    intro x hx
    have h1 := h y List.mem_cons_self
    have h2 := sum_bd ys fun x hx => h x (List.mem_cons_of_mem _ hx)
    rw [List.sum_cons] at h0
    rcases List.mem_cons.1 hx with rfl | hx
    · omega
    · exact ih (fun x hx => h x (List.mem_cons_of_mem _ hx)) (by omega) x hx
theorem zero_sum (ys : List Int) (h : ∀ x ∈ ys, x = 0) : ys.sum = 0 := by
  induction ys with
  | nil => rfl
  | cons y ys ih =>
    rw [List.sum_cons, h y List.mem_cons_self, ih fun x hx => h x (List.mem_cons_of_mem _ hx)]
    rfl
theorem copyInts_is (xs : List Int) (h : xs.length ≤ 1048576) : impl_copyInts.f xs = some xs := by
  unfold impl_copyInts.f
  rw [if_pos (by simp; omega)]
  rfl
theorem counts_ev (c s mn mx : Int) (h r A B : List Int) (hh : h.length ≤ 8) (hr : r.length ≤ 8) (hA : A.length ≤ 8) (hB : B.length ≤ 8) :
    Ev (fun k => impl_counts.f k c s mn mx h r [A, B]) (((h ++ r) ++ A) ++ B) := by
  unfold impl_counts.f
  refine ev_bind0 (copyInts_is h (by omega)) (ev_pos (by omega) ?_)
  refine Ev.step (fun _ => rfl) ?_
  simp only [impl_counts.l0]
  refine ev_pos (by simp) (ev_pos (by simp) (ev_pos (by simp) ?_))
  have e0 : rd_L1 [A, B] 0 = A := rfl
  have w1 : wrap64 (0 + 1) = 1 := by unfold wrap64; omega
  have w2 : wrap64 (1 + 1) = 2 := by unfold wrap64; omega
  have e1 : rd_L1 [A, B] (wrap64 (0 + 1)) = B := by rw [w1]; rfl
  refine ev_pos (by rw [e0]; simp; omega) ?_
  refine Ev.step (fun _ => rfl) ?_
  simp only [impl_counts.l0]
  refine ev_pos (by rw [w1]; simp) (ev_pos (by rw [w1]; omega) (ev_pos (by rw [w1]; simp) ?_))
  refine ev_pos (by rw [e0, e1]; simp; omega) ?_
  refine Ev.step (fun _ => rfl) ?_
  simp only [impl_counts.l0]
  exact ev_neg (by rw [w1, w2]; simp) (ev_some (by rw [e0, e1]))
theorem impl_sketchOk_l1 (c s mn mx : Int) (h r : List Int) (R : List (List Int)) (v : Bool) (t : Int) (hr : r.length ≤ 8) (d : Nat) : ∀ i : Nat, i + d = r.length →
    ((∀ x ∈ r.drop i, x ≤ 17) → v = if c = 0 then (t == 0) else decide (mn ≤ mx ∧ mx ≤ 1000000)) → (¬ (∀ x ∈ r.drop i, x ≤ 17) → v = false) →
    Ev (fun k => impl_SketchOk.l1 k t r (r.length : Int) (i : Int) c s mn mx h r R) v := by
  induction d with
  | zero =>
    intro i hi h1 _
    refine Ev.step (fun _ => rfl) ?_
    simp only [impl_SketchOk.l1]
    refine ev_neg (by omega) ?_
    rw [h1 (fun x hx => by rw [List.drop_of_length_le (by omega)] at hx; cases hx)]
    by_cases hc : c = 0
    · exact ev_pos hc (ev_some (by rw [if_pos hc]))
    · refine ev_neg hc (ev_if (fun g => ev_some ?_) (fun g => ev_some (by rw [if_neg hc]; exact (decide_eq_false fun q => g q.1).symm)))
      rw [if_neg hc]
      exact decide_eq_decide.mpr ⟨fun x => ⟨g, x⟩, fun x => x.2⟩
  | succ d ih =>
    intro i hi h1 h2
    have hg : i < r.length := by omega
    rw [List.drop_eq_getElem_cons hg] at h1 h2
    refine Ev.step (fun _ => rfl) ?_
    simp only [impl_SketchOk.l1]
    rw [wsucc (by omega), rd_get hg]
    refine ev_pos (by omega) (ev_pos (by omega) (ev_pos (by omega) ?_))
    by_cases g : r[i] > 17
    · exact ev_pos g (ev_some (h2 fun q => by have := q _ List.mem_cons_self; omega).symm)
    · refine ev_neg g (ih (i + 1) (by omega) (fun q => h1 fun x hx => ?_) (fun q => h2 fun p => q fun x hx => p x (List.mem_cons_of_mem _ hx)))
      rcases List.mem_cons.1 hx with rfl | hx
      · omega
      · exact q x hx
theorem impl_sketchOk_l0 (c s mn mx : Int) (h r : List Int) (R : List (List Int)) (v : Bool) (ys : List Int) (hy : ys.length ≤ 100) (d : Nat) : ∀ (i : Nat) (t : Int), i + d = ys.length → 0 ≤ t → t ≤ (i : Int) * 1000000000 →
    ((∀ x ∈ ys.drop i, 0 ≤ x ∧ x ≤ 1000000000) → Ev (fun k => impl_SketchOk.l1 k (t + (ys.drop i).sum) r (r.length : Int) 0 c s mn mx h r R) v) → (¬ (∀ x ∈ ys.drop i, 0 ≤ x ∧ x ≤ 1000000000) → v = false) →
    Ev (fun k => impl_SketchOk.l0 k t ys (ys.length : Int) (i : Int) c s mn mx h r R) v := by
  induction d with
  | zero =>
    intro i t hi h0 ht h1 _
    refine Ev.step (fun _ => rfl) ?_
    simp only [impl_SketchOk.l0]
    refine ev_neg (by omega) ?_
    rw [List.drop_of_length_le (by omega)] at h1
    have := h1 (fun x hx => by cases hx)
    rw [List.sum_nil, Int.add_zero] at this
    exact this
  | succ d ih =>
    intro i t hi h0 ht h1 h2
    have hg : i < ys.length := by omega
    rw [List.drop_eq_getElem_cons hg] at h1 h2
    refine Ev.step (fun _ => rfl) ?_
    simp only [impl_SketchOk.l0]
    rw [wsucc (by omega), rd_get hg]
    refine ev_pos (by omega) (ev_pos (by omega) (ev_pos (by omega) (ev_bind0 (within_is _ _ _) ?_)))
    by_cases g : 0 ≤ ys[i] ∧ ys[i] ≤ 1000000000
    · refine ev_pos (decide_eq_true g) ?_
      rw [w64 (x := t + ys[i]) (by omega) (by omega)]
      refine ih (i + 1) _ (by omega) (by omega) (by omega) (fun q => ?_) (fun q => h2 fun p => q fun x hx => p x (List.mem_cons_of_mem _ hx))
      rw [Int.add_assoc, ← List.sum_cons]
      refine h1 fun x hx => ?_
      rcases List.mem_cons.1 hx with rfl | hx
      · exact g
      · exact q x hx
    · exact ev_neg (by rw [decide_eq_false g]; exact Bool.false_ne_true) (ev_some (h2 fun q => g (q _ List.mem_cons_self)).symm)
theorem impl_sketchOk_ev (c s mn mx : Int) (h r : List Int) (R : List (List Int)) : Ev (fun k => impl_SketchOk.f k c s mn mx h r R) (skOk c s mn mx h r R) := by
  have bad : ¬ SkOk c s mn mx h r R → Ev (fun k => impl_SketchOk.j0 k true c s mn mx h r R) (skOk c s mn mx h r R) := by
    intro hb
    refine Ev.step (fun _ => rfl) ?_
    simp only [impl_SketchOk.j0]
    exact ev_pos (by trivial) (ev_some (skOk_false hb).symm)
  unfold impl_SketchOk.f
  by_cases a1 : h.length = 8
  case neg => exact ev_neg (by omega) (bad fun g => a1 g.2.2.2.2.2.2.2.1.1)
  refine ev_pos (by omega) ?_
  by_cases a2 : r.length = 8
  case neg => exact ev_neg (by omega) (bad fun g => a2 g.2.2.2.2.2.2.2.2.1.1)
  refine ev_pos (by omega) ?_
  by_cases a3 : R.length = 2
  case neg => exact ev_neg (by omega) (bad fun g => a3 g.2.2.2.2.2.1)
  refine ev_pos (by omega) (ev_pos (by omega) ?_)
  by_cases a4 : (rd_L1 R 0).length = 4
  case neg => exact ev_neg (by omega) (bad fun g => a4 g.2.2.2.2.2.2.2.2.2.1.1)
  refine ev_pos (by omega) (ev_pos (by omega) ?_)
  by_cases a5 : (rd_L1 R 1).length = 4
  case neg =>
    have e : (((rd_L1 R 1).length : Int) != 4) = true := by simp; omega
    rw [e]
    exact bad fun g => a5 g.2.2.2.2.2.2.2.2.2.2.1
  have e : (((rd_L1 R 1).length : Int) != 4) = false := by simp; omega
  rw [e]
  clear e bad
  obtain ⟨A, B, rfl⟩ : ∃ A B, R = [A, B] := by
    match R, a3 with
    | [A, B], _ => exact ⟨A, B, rfl⟩
  have eA : rd_L1 [A, B] 0 = A := rfl
  have eB : rd_L1 [A, B] 1 = B := rfl
  rw [eA] at a4
  rw [eB] at a5
  refine Ev.step (fun _ => rfl) ?_
  simp only [impl_SketchOk.j0]
  refine ev_neg (by simp) (Ev.bind (counts_ev c s mn mx h r A B (by omega) (by omega) (by omega) (by omega)) (ev_bind0 rfl (ev_pos ?_ (ev_bind0 rfl ?_))))
  · simp only [List.length_append, List.length_cons, List.length_nil]
    omega
  generalize hys : (((h ++ r) ++ A) ++ B) ++ [c, s, mn, mx] = ys
  have hyl : ys.length = 28 := by
    rw [← hys]
    simp only [List.length_append, List.length_cons, List.length_nil]
    omega
  have hmem : ∀ P : Int → Prop, (∀ x ∈ ys, P x) ↔ (∀ x ∈ h, P x) ∧ (∀ x ∈ r, P x) ∧ (∀ x ∈ A, P x) ∧ (∀ x ∈ B, P x) ∧ P c ∧ P s ∧ P mn ∧ P mx := by
    intro P
    rw [← hys]
    constructor
    · intro q
      exact ⟨fun x hx => q x (by simp [hx]), fun x hx => q x (by simp [hx]), fun x hx => q x (by simp [hx]), fun x hx => q x (by simp [hx]), q c (by simp), q s (by simp), q mn (by simp), q mx (by simp)⟩
    · rintro ⟨q1, q2, q3, q4, q5, q6, q7, q8⟩ x hx
      simp only [List.mem_append, List.mem_cons, List.not_mem_nil, or_false] at hx
      rcases hx with (((hx | hx) | hx) | hx) | rfl | rfl | rfl | rfl
      · exact q1 x hx
      · exact q2 x hx
      · exact q3 x hx
      · exact q4 x hx
      · exact q5
      · exact q6
      · exact q7
      · exact q8
  refine impl_sketchOk_l0 c s mn mx h r [A, B] _ ys (by omega) 28 0 0 (by omega) (by omega) (by omega) (fun q => ?_) (fun q => skOk_false fun g => q ?_)
  · rw [List.drop_zero] at q
    rw [List.drop_zero, Int.zero_add]
    have qq := (hmem _).1 q
    refine impl_sketchOk_l1 c s mn mx h r [A, B] _ ys.sum (by omega) 8 0 (by omega) (fun p => ?_) (fun p => skOk_false fun g => p fun x hx => ?_)
    · rw [List.drop_zero] at p
      by_cases hc : c = 0
      · rw [if_pos hc]
        by_cases hz : ys.sum = 0
        · have z := (hmem _).1 (sum_zero ys q hz)
          have e : (ys.sum == 0) = true := by simpa using hz
          rw [e]
          refine skOk_true.2 ⟨by omega, by omega, by omega, by omega, by omega, rfl, fun _ => ⟨z.2.2.2.2.2.1, z.2.2.2.2.2.2.2⟩, ⟨a1, fun x hx => ⟨qq.1 x hx, fun _ => z.1 x hx⟩⟩, ⟨a2, fun x hx => ⟨⟨(qq.2.1 x hx).1, p x hx⟩, fun _ => z.2.1 x hx⟩⟩, ⟨a4, fun x hx => ⟨qq.2.2.1 x hx, fun _ => z.2.2.1 x hx⟩⟩, ⟨a5, fun x hx => ⟨qq.2.2.2.1 x hx, fun _ => z.2.2.2.1 x hx⟩⟩⟩
        · have e : (ys.sum == 0) = false := by simpa using hz
          rw [e]
          refine skOk_false fun g => hz (zero_sum ys ((hmem _).2 ?_))
          obtain ⟨g1, g2, g3, g4, g5, g6, g7, g8, g9, g10, g11⟩ := g
          have := g7 hc
          exact ⟨fun x hx => (g8.2 x hx).2 hc, fun x hx => (g9.2 x hx).2 hc, fun x hx => (g10.2 x hx).2 hc, fun x hx => (g11.2 x hx).2 hc, hc, this.1, by omega, this.2⟩
      · rw [if_neg hc]
        by_cases hm : mn ≤ mx ∧ mx ≤ 1000000
        · rw [decide_eq_true hm]
          refine skOk_true.2 ⟨qq.2.2.2.2.1, qq.2.2.2.2.2.1, by omega, by omega, hm.1, rfl, fun z => absurd z hc, ⟨a1, fun x hx => ⟨qq.1 x hx, fun z => absurd z hc⟩⟩, ⟨a2, fun x hx => ⟨⟨(qq.2.1 x hx).1, p x hx⟩, fun z => absurd z hc⟩⟩, ⟨a4, fun x hx => ⟨qq.2.2.1 x hx, fun z => absurd z hc⟩⟩, ⟨a5, fun x hx => ⟨qq.2.2.2.1 x hx, fun z => absurd z hc⟩⟩⟩
        · rw [decide_eq_false hm]
          exact skOk_false fun g => hm ⟨g.2.2.2.2.1, g.2.2.2.1.2⟩
    · rw [List.drop_zero] at hx
      exact (g.2.2.2.2.2.2.2.2.1.2 x hx).1.2
  · rw [List.drop_zero]
    obtain ⟨g1, g2, g3, g4, g5, g6, g7, g8, g9, g10, g11⟩ := g
    exact (hmem _).2 ⟨fun x hx => (g8.2 x hx).1, fun x hx => by have := (g9.2 x hx).1; omega, fun x hx => (g10.2 x hx).1, fun x hx => (g11.2 x hx).1, g1, g2, by omega, by omega⟩
noncomputable def itemOk (q cl ke wi c s mn mx : Int) (h r : List Int) (R : List (List Int)) : Bool :=
  decide (1 ≤ q ∧ q ≤ 60) && (decide (0 ≤ cl ∧ cl ≤ 1) && (decide (0 ≤ ke ∧ ke ≤ 4) && (decide (0 ≤ wi ∧ wi ≤ 20) && skOk c s mn mx h r R)))
theorem spec_itemOk_ev (q cl ke wi c s mn mx : Int) (h r : List Int) (R : List (List Int)) : Ev (fun k => spec_ItemOk.f k q cl ke wi c s mn mx h r R) (itemOk q cl ke wi c s mn mx h r R) := by
  unfold spec_ItemOk.f itemOk spec_l6Place.f
  refine ev_bind0 (l1In_is _ _ _) ?_
  cases decide (1 ≤ q ∧ q ≤ 60)
  · exact ev_neg (by simp) (ev_some rfl)
  refine ev_pos rfl (ev_bind0 (l1In_is _ _ _) ?_)
  cases decide (0 ≤ cl ∧ cl ≤ 1)
  · exact ev_neg (by simp) (ev_some rfl)
  refine ev_pos rfl ?_
  rw [l1In_is, l1In_is, Option.bind_some]
  cases decide (0 ≤ ke ∧ ke ≤ 4)
  · exact ev_bind0 rfl (ev_neg (by simp) (ev_some rfl))
  cases decide (0 ≤ wi ∧ wi ≤ 20)
  · exact ev_bind0 rfl (ev_neg (by simp) (ev_some rfl))
  exact ev_bind0 rfl (ev_pos rfl (Ev.bind (spec_sketchOk_ev c s mn mx h r R) (ev_some (by simp))))
theorem impl_itemOk_ev (q cl ke wi c s mn mx : Int) (h r : List Int) (R : List (List Int)) : Ev (fun k => impl_ItemOk.f k q cl ke wi c s mn mx h r R) (itemOk q cl ke wi c s mn mx h r R) := by
  unfold impl_ItemOk.f itemOk
  refine ev_bind0 (within_is _ _ _) ?_
  cases decide (1 ≤ q ∧ q ≤ 60)
  · exact ev_neg (by simp) (ev_some rfl)
  refine ev_pos rfl (ev_bind0 (within_is _ _ _) ?_)
  cases decide (0 ≤ cl ∧ cl ≤ 1)
  · exact ev_neg (by simp) (ev_some rfl)
  refine ev_pos rfl (ev_bind0 (within_is _ _ _) ?_)
  cases decide (0 ≤ ke ∧ ke ≤ 4)
  · exact ev_neg (by simp) (ev_some rfl)
  refine ev_pos rfl (ev_bind0 (within_is _ _ _) ?_)
  cases decide (0 ≤ wi ∧ wi ≤ 20)
  · exact ev_neg (by simp) (ev_some rfl)
  exact ev_pos rfl (Ev.bind (impl_sketchOk_ev c s mn mx h r R) (ev_some (by simp)))
theorem impl_copy_at (c s lo hi : Int) (h r : List Int) (R : List (List Int)) (hR : R.length ≤ 1048576) (hx : ∀ x ∈ R, x.length ≤ 1048576) (d : Nat) : ∀ i : Nat, i + d = R.length →
    Ev (fun k => impl_copySketch.l0 k R (R.length : Int) (i : Int) c s lo hi h r (R.take i)) (c, s, lo, hi, h, r, R) := by
  induction d with
  | zero =>
    intro i hi'
    refine Ev.step (fun _ => rfl) ?_
    simp only [impl_copySketch.l0]
    exact ev_neg (by omega) (ev_some (by rw [show i = R.length by omega, List.take_length]))
  | succ d ih =>
    intro i hi'
    refine Ev.step (fun _ => rfl) ?_
    simp only [impl_copySketch.l0]
    have hiR : i < R.length := by omega
    have hl := hx _ (List.getElem_mem hiR)
    rw [wsucc (by omega), rdR_get hiR]
    refine ev_pos (by omega) (ev_pos (by omega) (ev_pos (by omega) (ev_bind0 (a := R[i]) (by unfold impl_copyInts.f; rw [if_pos (by simp; omega), List.nil_append]) (ev_pos (by simp; omega) ?_))))
    rw [← List.take_succ_eq_append_getElem hiR]
    exact ih (i + 1) (by omega)
theorem impl_copy_ev (c s lo hi : Int) (h r : List Int) (R : List (List Int)) (hh : h.length ≤ 1048576) (hr : r.length ≤ 1048576) (hR : R.length ≤ 1048576) (hx : ∀ x ∈ R, x.length ≤ 1048576) :
    Ev (fun k => impl_copySketch.f k c s lo hi h r R) (c, s, lo, hi, h, r, R) := by
  unfold impl_copySketch.f
  refine ev_bind0 (a := h) (by unfold impl_copyInts.f; rw [if_pos (by simp; omega), List.nil_append]) (ev_bind0 (a := r) (by unfold impl_copyInts.f; rw [if_pos (by simp; omega), List.nil_append]) ?_)
  have := impl_copy_at c s lo hi h r R hR hx R.length 0 (by omega)
  simpa using this
theorem spec_copy_at (c s lo hi : Int) (h r : List Int) (R : List (List Int)) (hR : R.length ≤ 1048576) (hx : ∀ x ∈ R, x.length ≤ 1048576) (d : Nat) : ∀ i : Nat, i + d = R.length →
    Ev (fun k => spec_l3Copy.l0 k (i : Int) c s lo hi h r R c s lo hi h r (R.take i)) (c, s, lo, hi, h, r, R) := by
  induction d with
  | zero =>
    intro i hi'
    refine Ev.step (fun _ => rfl) ?_
    simp only [spec_l3Copy.l0]
    exact ev_neg (by omega) (ev_some (by rw [show i = R.length by omega, List.take_length]))
  | succ d ih =>
    intro i hi'
    refine Ev.step (fun _ => rfl) ?_
    simp only [spec_l3Copy.l0]
    have hiR : i < R.length := by omega
    have hl := hx _ (List.getElem_mem hiR)
    rw [wsucc (by omega), rdR_get hiR]
    simp only [Option.bind_some]
    refine ev_pos (by omega) (ev_pos (by omega) (ev_pos (by simp; omega) (ev_pos (by simp; omega) ?_)))
    rw [List.nil_append, ← List.take_succ_eq_append_getElem hiR]
    exact ih (i + 1) (by omega)
theorem spec_copy_ev (c s lo hi : Int) (h r : List Int) (R : List (List Int)) (hh : h.length ≤ 1048576) (hr : r.length ≤ 1048576) (hR : R.length ≤ 1048576) (hx : ∀ x ∈ R, x.length ≤ 1048576) :
    Ev (fun k => spec_l3Copy.f k c s lo hi h r R) (c, s, lo, hi, h, r, R) := by
  unfold spec_l3Copy.f
  simp only [Option.bind_some]
  refine ev_pos (by simp; omega) (ev_pos (by simp; omega) ?_)
  have := spec_copy_at c s lo hi h r R hR hx R.length 0 (by omega)
  simpa using this
theorem idof_same (a b : Int) : spec_IdOf.f a b = impl_IdOf.f a b := by
  unfold spec_IdOf.f impl_IdOf.f spec_l6Agent.f
  have h : ∀ x y z, spec_l1In.f x y z = impl_within.f x y z := fun _ _ _ => rfl
  simp only [h]
  cases impl_within.f a 0 2 <;> simp
theorem idof_some (a b : Int) : ∃ r, impl_IdOf.f a b = some r := by
  unfold impl_IdOf.f impl_within.f
  repeat (first | exact ⟨_, rfl⟩ | (simp only [Option.bind_some]; split) | split)
noncomputable def enV (id sq cl ke wi c s lo hi : Int) (h r : List Int) (R : List (List Int)) : Int × Int × List S70 × Int × Int × Int × Int × List Int × List Int × List (List Int) × Bool :=
  if itemOk sq cl ke wi c s lo hi h r R = true ∧ ¬ id < 0 then (ke, wi, [⟨id, id⟩], c, s, lo, hi, h, r, R, true) else (0, 0, [], 0, 0, 0, 0, [], [], [], false)
theorem impl_entryOf_ev (ag id sq cl ke wi c s lo hi : Int) (h r : List Int) (R : List (List Int)) (hid : impl_IdOf.f ag sq = some id) (hh : h.length ≤ 1048576) (hr : r.length ≤ 1048576) (hR : R.length ≤ 1048576) (hx : ∀ x ∈ R, x.length ≤ 1048576) :
    Ev (fun k => impl_EntryOf.f k ag sq cl ke wi c s lo hi h r R) (enV id sq cl ke wi c s lo hi h r R) := by
  unfold impl_EntryOf.f enV
  refine ev_bind0 hid (Ev.bind (impl_itemOk_ev sq cl ke wi c s lo hi h r R) ?_)
  cases itemOk sq cl ke wi c s lo hi h r R with
  | false =>
    rw [if_neg (by simp)]
    exact ev_neg (by simp) (ev_some rfl)
  | true =>
    by_cases hi' : id < 0
    · rw [if_neg (fun e => e.2 hi')]
      exact ev_pos (by trivial) (ev_pos hi' (ev_some rfl))
    · rw [if_pos ⟨by trivial, hi'⟩]
      exact ev_pos (by trivial) (ev_neg hi' (Ev.bind (impl_copy_ev c s lo hi h r R hh hr hR hx) (ev_some rfl)))
theorem spec_entryOf_ev (ag id sq cl ke wi c s lo hi : Int) (h r : List Int) (R : List (List Int)) (hid : impl_IdOf.f ag sq = some id) (hh : h.length ≤ 1048576) (hr : r.length ≤ 1048576) (hR : R.length ≤ 1048576) (hx : ∀ x ∈ R, x.length ≤ 1048576) :
    Ev (fun k => spec_EntryOf.f k ag sq cl ke wi c s lo hi h r R) (enV id sq cl ke wi c s lo hi h r R) := by
  unfold spec_EntryOf.f enV
  refine ev_bind0 (by rw [idof_same]; exact hid) (Ev.bind (spec_itemOk_ev sq cl ke wi c s lo hi h r R) ?_)
  cases itemOk sq cl ke wi c s lo hi h r R with
  | false =>
    rw [if_neg (by simp)]
    exact ev_neg (by simp) (ev_some rfl)
  | true =>
    by_cases hi' : id < 0
    · rw [if_neg (fun e => e.2 hi')]
      exact ev_pos (by trivial) (ev_pos hi' (ev_some rfl))
    · rw [if_pos ⟨by trivial, hi'⟩]
      exact ev_pos (by trivial) (ev_neg hi' (Ev.bind (spec_copy_ev c s lo hi h r R hh hr hR hx) (ev_some rfl)))
theorem enV_lens (id sq cl ke wi c s lo hi : Int) (h r : List Int) (R : List (List Int)) {e1 e2 : Int} {l1 : List S70} {c1 s1 lo1 hi1 : Int} {h1 r1 : List Int} {R1 : List (List Int)} {t : Bool} (e : enV id sq cl ke wi c s lo hi h r R = (e1, e2, l1, c1, s1, lo1, hi1, h1, r1, R1, t)) (hx : ∀ x ∈ R, x.length ≤ 1048576) :
    l1.length ≤ 1 ∧ h1.length ≤ h.length ∧ r1.length ≤ r.length ∧ R1.length ≤ R.length ∧ lensII R1 ≤ lensII R ∧ ∀ x ∈ R1, x.length ≤ 1048576 := by
  unfold enV at e
  split at e
  · simp only [Prod.mk.injEq] at e
    obtain ⟨_, _, rfl, _, _, _, _, rfl, rfl, rfl, _⟩ := e
    exact ⟨by simp, Nat.le_refl _, Nat.le_refl _, Nat.le_refl _, Nat.le_refl _, hx⟩
  · simp only [Prod.mk.injEq] at e
    obtain ⟨_, _, rfl, _, _, _, _, rfl, rfl, rfl, _⟩ := e
    exact ⟨by simp, by simp, by simp, by simp, by simp [lensII], by simp⟩
theorem szItem_all (q cl ke wi c s mn mx : Int) (h r : List Int) (R : List (List Int)) (a : Int) (h0 : 0 ≤ a) (h1 : a ≤ 1048576) (hh : h.length ≤ 9223372036854775807) (hr : r.length ≤ 9223372036854775807) (hR : R.length ≤ 9223372036854775807) (hx : ∀ x ∈ R, x.length ≤ 9223372036854775807) :
    ∃ v, Ev (fun k => laws_szItem.f k q cl ke wi c s mn mx h r R a) v ∧ v ≤ a ∧ (0 ≤ v → (h.length ≤ 1048576 ∧ r.length ≤ 1048576 ∧ R.length ≤ 1048576 ∧ ∀ x ∈ R, x.length ≤ 1048576) ∧ (h.length : Int) + r.length + lensII R + v ≤ a) := by
  obtain ⟨v, hv, hle, hall⟩ := szSketch_all c s mn mx h r R a h0 h1 hh hr hR hx
  by_cases g : v < 0
  · refine ⟨-1, ?_, by omega, fun h => by omega⟩
    unfold laws_szItem.f
    exact Ev.bind hv (ev_pos g (ev_some rfl))
  · refine ⟨v, ?_, hle, hall⟩
    unfold laws_szItem.f
    exact Ev.bind hv (ev_neg g (ev_some rfl))
theorem heldEntry_ev (ke wi c s lo hi : Int) (a n nh nr : Nat) (R : List (List Int)) (ha : 0 ≤ a) (hb : (a : Int) + 2 * n + (nh : Int) + (nr : Int) + (lensII R : Nat) ≤ 1073741824) (h1 : nh ≤ 1048576) (h2 : nr ≤ 1048576) (hR : R.length ≤ 1048576) (hl : ∀ l ∈ R, l.length ≤ 1048576) :
    Ev (fun k => laws_heldEntry.f k ke wi (msp a n) c s lo hi (marksI ((a + 2 * n : Nat) : Int) nh) (marksI (((a + 2 * n : Nat) : Int) + (nh : Int)) nr) (marksII (((a + 2 * n : Nat) : Int) + (nh : Int) + (nr : Int)) R) (a : Int)) (((a + 2 * n : Nat) : Int) + (nh : Int) + (nr : Int) + (lensII R : Nat)) := by
  unfold laws_heldEntry.f
  exact Ev.bind (heldSpanS_ev a n (by omega)) (ev_neg (by omega) (Ev.bind (heldSketch_ev c s lo hi ((a + 2 * n : Nat) : Int) nh nr R (by omega) (by omega) h1 h2 hR hl) (ev_neg (by omega) (ev_some rfl))))
set_option maxHeartbeats 16000000 in
theorem law0 (k : Nat) (V M M1 K1 ag sq cl ke wi c s lo hi e1 e2 c1 s1 lo1 hi1 : Int) (t : Bool) (x y z : Sl) (l1 ml : List S70) (h r h1 r1 m2 m3 : List Int) (R R1 m4 : List (List Int)) (w : World) (u : Rd w x y z h r R)
    (SZ : Aside0 (laws_szItem.f k sq cl ke wi c s lo hi h r R 1048576 = some V)) (hV : decide (V < 0) = false) (TO : Aside0 (laws_toItem.f k sq cl ke wi c s lo hi h r R = some (sq, cl, ke, wi, c, s, lo, hi, h, r, R)))
    (SI : Aside0 (spec_EntryOf.f k ag sq cl ke wi c s lo hi h r R = some (e1, e2, l1, c1, s1, lo1, hi1, h1, r1, R1, t))) (II : Aside0 (impl_EntryOf.f k ag sq cl ke wi c s lo hi h r R = some (e1, e2, l1, c1, s1, lo1, hi1, h1, r1, R1, t)))
    (EQ : Aside0 (laws_eqItem.f k sq cl ke wi c s lo hi h r R sq cl ke wi c s lo hi h r R = some true)) (EQ1 : Aside0 (laws_eqEntry.f k e1 e2 l1 c1 s1 lo1 hi1 h1 r1 R1 e1 e2 l1 c1 s1 lo1 hi1 h1 r1 R1 = some true))
    (MK : Aside0 (MkI k)) (LM : Aside0 ((1 : Int) + (h.length : Int) + (r.length : Int) + (lensII R : Nat) = M ∧ M ≤ 1073741824 ∧ h.length ≤ 1048576 ∧ r.length ≤ 1048576 ∧ R.length ≤ 1048576 ∧ ∀ l ∈ R, l.length ≤ 1048576)) (hM : decide (M < 0) = false)
    (ME : Aside0 (laws_markSpanS.f k l1 1 = some (K1, ml))) (hK1 : 0 ≤ K1)
    (LM1 : Aside0 (K1 + (h1.length : Int) + (r1.length : Int) + (lensII R1 : Nat) = M1 ∧ M1 ≤ 1073741824 ∧ h1.length ≤ 1048576 ∧ r1.length ≤ 1048576 ∧ R1.length ≤ 1048576 ∧ ∀ l ∈ R1, l.length ≤ 1048576)) (hM1 : decide (M1 < 0) = false)
    (HE : Aside0 (laws_heldEntry.f k e1 e2 ml c1 s1 lo1 hi1 (marksI K1 h1.length) (marksI (K1 + (h1.length : Int)) r1.length) (marksII (K1 + (h1.length : Int) + (r1.length : Int)) R1) 1 = some M1)) :
    Calls Try.prog 4 #[.int .i64 ag, .agg #[.int .i64 sq, .int .i64 cl, .int .i64 ke, .int .i64 wi, .int .i64 c, .int .i64 s, .int .i64 lo, .int .i64 hi, .slice x.A x.n x.c, .slice y.A y.n y.c, .slice z.A z.n z.c]] w fun e w' => e = .returned (.bool true) ∧ Below w.heap.size w w' := by
  have U0 := Aside0.mk u
  clear u
  go_enter Try.func4, Try.ntmps4
  have HB_1 := Aside0.mk ((below_alloc (Below.refl _ w) (.cells #[.int .i64 sq, .int .i64 cl, .int .i64 ke, .int .i64 wi, .int .i64 c, .int .i64 s, .int .i64 lo, .int .i64 hi, .slice x.A x.n x.c, .slice y.A y.n y.c, .slice z.A z.n z.c] 47)))
  have Z_2 := Aside0.mk (show (w.alloc (.cells #[.int .i64 sq, .int .i64 cl, .int .i64 ke, .int .i64 wi, .int .i64 c, .int .i64 s, .int .i64 lo, .int .i64 hi, .slice x.A x.n x.c, .slice y.A y.n y.c, .slice z.A z.n z.c] 47)).heap.size = w.heap.size + 1 by simp)
  have arg_3 := Aside0.mk (Bx.new w 47 #[.int .i64 sq, .int .i64 cl, .int .i64 ke, .int .i64 wi, .int .i64 c, .int .i64 s, .int .i64 lo, .int .i64 hi, .slice x.A x.n x.c, .slice y.A y.n y.c, .slice z.A z.n z.c])
  go_wp2_with fail
  refine (szT_callD k sq cl ke wi c s lo hi 1048576 V (U0.out.below HB_1.out) SZ.out).mono ?_
  rintro e w1 ⟨rfl, hb⟩
  have arg_4 := Aside0.mk (arg_3.out.below hb)
  have HB_5 := Aside0.mk (below_step HB_1.out hb)
  have Z_6 := Aside0.mk (hb.size)
  clear arg_3 HB_1 hb
  obtain ⟨arg6c0, arg6c1, arg6c2, arg6c3, arg6c4, arg6c5, arg6c6, arg6c7, arg6c8, arg6c9, arg6c10⟩ := arg_4.out.cells11
  go_wp2_with fail
  clear arg6c0 arg6c1 arg6c2 arg6c3 arg6c4 arg6c5 arg6c6 arg6c7 arg6c8 arg6c9 arg6c10
  refine (toT_callD k sq cl ke wi c s lo hi (U0.out.below HB_5.out) TO.out).mono ?_
  rintro e w2 ⟨x1, y1, z1, a1, b1, rfl, hs, hm, hb⟩
  have S1_8 := Aside0.mk hs
  clear hs
  have Z_9 := Aside0.mk hm
  clear hm
  unfold Made at Z_9
  have arg_10 := Aside0.mk (arg_4.out.below hb)
  have HB_11 := Aside0.mk (below_step HB_5.out hb)
  have Z_12 := Aside0.mk (hb.size)
  clear arg_4 HB_5 hb
  go_wp2_with fail
  refine (specE_callD k ag sq cl ke wi c s lo hi e1 e2 c1 s1 lo1 hi1 l1 h1 r1 R1 t S1_8.out.rd SI.out).mono ?_
  rintro e w3 ⟨q2, x2, y2, z2, a2, b2, rfl, hs, hm, hb⟩
  have w0_13 := Aside0.mk hs
  clear hs
  have Z_14 := Aside0.mk hm
  clear hm
  unfold Made at Z_14
  have arg_15 := Aside0.mk (arg_10.out.below hb)
  have S1_16 := Aside0.mk (S1_8.out.below hb)
  have HB_17 := Aside0.mk (below_step HB_11.out hb)
  have Z_18 := Aside0.mk (hb.size)
  clear arg_10 S1_8 HB_11 hb
  clear S1_16
  have arg_19 := Aside0.mk (arg_15.out.below (below_alloc (Below.refl _ w3) (.cells #[.int .i64 e1, .int .i64 e2, .slice q2.A q2.n q2.c, .int .i64 c1, .int .i64 s1, .int .i64 lo1, .int .i64 hi1, .slice x2.A x2.n x2.c, .slice y2.A y2.n y2.c, .slice z2.A z2.n z2.c] 34)))
  have w0_20 := Aside0.mk (w0_13.out.below (below_alloc (Below.refl _ w3) (.cells #[.int .i64 e1, .int .i64 e2, .slice q2.A q2.n q2.c, .int .i64 c1, .int .i64 s1, .int .i64 lo1, .int .i64 hi1, .slice x2.A x2.n x2.c, .slice y2.A y2.n y2.c, .slice z2.A z2.n z2.c] 34)))
  have HB_21 := Aside0.mk (below_step HB_17.out (below_alloc (Below.refl _ w3) (.cells #[.int .i64 e1, .int .i64 e2, .slice q2.A q2.n q2.c, .int .i64 c1, .int .i64 s1, .int .i64 lo1, .int .i64 hi1, .slice x2.A x2.n x2.c, .slice y2.A y2.n y2.c, .slice z2.A z2.n z2.c] 34)))
  have Z_22 := Aside0.mk (show (w3.alloc (.cells #[.int .i64 e1, .int .i64 e2, .slice q2.A q2.n q2.c, .int .i64 c1, .int .i64 s1, .int .i64 lo1, .int .i64 hi1, .slice x2.A x2.n x2.c, .slice y2.A y2.n y2.c, .slice z2.A z2.n z2.c] 34)).heap.size = w3.heap.size + 1 by simp)
  have bw0_23 := Aside0.mk (Bx.new w3 34 #[.int .i64 e1, .int .i64 e2, .slice q2.A q2.n q2.c, .int .i64 c1, .int .i64 s1, .int .i64 lo1, .int .i64 hi1, .slice x2.A x2.n x2.c, .slice y2.A y2.n y2.c, .slice z2.A z2.n z2.c])
  clear arg_15 w0_13 HB_17
  obtain ⟨arg23c0, arg23c1, arg23c2, arg23c3, arg23c4, arg23c5, arg23c6, arg23c7, arg23c8, arg23c9, arg23c10⟩ := arg_19.out.cells11
  go_wp2_with fail
  clear arg23c0 arg23c1 arg23c2 arg23c3 arg23c4 arg23c5 arg23c6 arg23c7 arg23c8 arg23c9 arg23c10
  refine (toT_callD k sq cl ke wi c s lo hi (U0.out.below HB_21.out) TO.out).mono ?_
  rintro e w4 ⟨x3, y3, z3, a3, b3, rfl, hs, hm, hb⟩
  have S3_25 := Aside0.mk hs
  clear hs
  have Z_26 := Aside0.mk hm
  clear hm
  unfold Made at Z_26
  have arg_27 := Aside0.mk (arg_19.out.below hb)
  have w0_28 := Aside0.mk (w0_20.out.below hb)
  have bw0_29 := Aside0.mk (bw0_23.out.below hb)
  have HB_30 := Aside0.mk (below_step HB_21.out hb)
  have Z_31 := Aside0.mk (hb.size)
  clear arg_19 w0_20 bw0_23 HB_21 hb
  have arg_32 := Aside0.mk (arg_27.out.below (below_alloc (Below.refl _ w4) (.cells #[.int .i64 sq, .int .i64 cl, .int .i64 ke, .int .i64 wi, .int .i64 c, .int .i64 s, .int .i64 lo, .int .i64 hi, .slice x3.A x3.n x3.c, .slice y3.A y3.n y3.c, .slice z3.A z3.n z3.c] 29)))
  have w0_33 := Aside0.mk (w0_28.out.below (below_alloc (Below.refl _ w4) (.cells #[.int .i64 sq, .int .i64 cl, .int .i64 ke, .int .i64 wi, .int .i64 c, .int .i64 s, .int .i64 lo, .int .i64 hi, .slice x3.A x3.n x3.c, .slice y3.A y3.n y3.c, .slice z3.A z3.n z3.c] 29)))
  have bw0_34 := Aside0.mk (bw0_29.out.below (below_alloc (Below.refl _ w4) (.cells #[.int .i64 sq, .int .i64 cl, .int .i64 ke, .int .i64 wi, .int .i64 c, .int .i64 s, .int .i64 lo, .int .i64 hi, .slice x3.A x3.n x3.c, .slice y3.A y3.n y3.c, .slice z3.A z3.n z3.c] 29)))
  have S3_35 := Aside0.mk (S3_25.out.below (below_alloc (Below.refl _ w4) (.cells #[.int .i64 sq, .int .i64 cl, .int .i64 ke, .int .i64 wi, .int .i64 c, .int .i64 s, .int .i64 lo, .int .i64 hi, .slice x3.A x3.n x3.c, .slice y3.A y3.n y3.c, .slice z3.A z3.n z3.c] 29)))
  have HB_36 := Aside0.mk (below_step HB_30.out (below_alloc (Below.refl _ w4) (.cells #[.int .i64 sq, .int .i64 cl, .int .i64 ke, .int .i64 wi, .int .i64 c, .int .i64 s, .int .i64 lo, .int .i64 hi, .slice x3.A x3.n x3.c, .slice y3.A y3.n y3.c, .slice z3.A z3.n z3.c] 29)))
  have Z_37 := Aside0.mk (show (w4.alloc (.cells #[.int .i64 sq, .int .i64 cl, .int .i64 ke, .int .i64 wi, .int .i64 c, .int .i64 s, .int .i64 lo, .int .i64 hi, .slice x3.A x3.n x3.c, .slice y3.A y3.n y3.c, .slice z3.A z3.n z3.c] 29)).heap.size = w4.heap.size + 1 by simp)
  have x0_38 := Aside0.mk (Bx.new w4 29 #[.int .i64 sq, .int .i64 cl, .int .i64 ke, .int .i64 wi, .int .i64 c, .int .i64 s, .int .i64 lo, .int .i64 hi, .slice x3.A x3.n x3.c, .slice y3.A y3.n y3.c, .slice z3.A z3.n z3.c])
  clear arg_27 w0_28 bw0_29 S3_25 HB_30
  go_wp2_with fail
  refine (implE_callD k ag sq cl ke wi c s lo hi e1 e2 c1 s1 lo1 hi1 l1 h1 r1 R1 t S3_35.out.rd II.out).mono ?_
  rintro e w5 ⟨q4, x4, y4, z4, a4, b4, rfl, hs, hm, hb⟩
  have g0_39 := Aside0.mk hs
  clear hs
  have Z_40 := Aside0.mk hm
  clear hm
  unfold Made at Z_40
  have arg_41 := Aside0.mk (arg_32.out.below hb)
  have w0_42 := Aside0.mk (w0_33.out.below hb)
  have bw0_43 := Aside0.mk (bw0_34.out.below hb)
  have S3_44 := Aside0.mk (S3_35.out.below hb)
  have x0_45 := Aside0.mk (x0_38.out.below hb)
  have HB_46 := Aside0.mk (below_step HB_36.out hb)
  have Z_47 := Aside0.mk (hb.size)
  clear arg_32 w0_33 bw0_34 S3_35 x0_38 HB_36 hb
  have arg_48 := Aside0.mk (arg_41.out.below (below_alloc (Below.refl _ w5) (.cells #[.int .i64 e1, .int .i64 e2, .slice q4.A q4.n q4.c, .int .i64 c1, .int .i64 s1, .int .i64 lo1, .int .i64 hi1, .slice x4.A x4.n x4.c, .slice y4.A y4.n y4.c, .slice z4.A z4.n z4.c] 34)))
  have w0_49 := Aside0.mk (w0_42.out.below (below_alloc (Below.refl _ w5) (.cells #[.int .i64 e1, .int .i64 e2, .slice q4.A q4.n q4.c, .int .i64 c1, .int .i64 s1, .int .i64 lo1, .int .i64 hi1, .slice x4.A x4.n x4.c, .slice y4.A y4.n y4.c, .slice z4.A z4.n z4.c] 34)))
  have bw0_50 := Aside0.mk (bw0_43.out.below (below_alloc (Below.refl _ w5) (.cells #[.int .i64 e1, .int .i64 e2, .slice q4.A q4.n q4.c, .int .i64 c1, .int .i64 s1, .int .i64 lo1, .int .i64 hi1, .slice x4.A x4.n x4.c, .slice y4.A y4.n y4.c, .slice z4.A z4.n z4.c] 34)))
  have S3_51 := Aside0.mk (S3_44.out.below (below_alloc (Below.refl _ w5) (.cells #[.int .i64 e1, .int .i64 e2, .slice q4.A q4.n q4.c, .int .i64 c1, .int .i64 s1, .int .i64 lo1, .int .i64 hi1, .slice x4.A x4.n x4.c, .slice y4.A y4.n y4.c, .slice z4.A z4.n z4.c] 34)))
  have x0_52 := Aside0.mk (x0_45.out.below (below_alloc (Below.refl _ w5) (.cells #[.int .i64 e1, .int .i64 e2, .slice q4.A q4.n q4.c, .int .i64 c1, .int .i64 s1, .int .i64 lo1, .int .i64 hi1, .slice x4.A x4.n x4.c, .slice y4.A y4.n y4.c, .slice z4.A z4.n z4.c] 34)))
  have g0_53 := Aside0.mk (g0_39.out.below (below_alloc (Below.refl _ w5) (.cells #[.int .i64 e1, .int .i64 e2, .slice q4.A q4.n q4.c, .int .i64 c1, .int .i64 s1, .int .i64 lo1, .int .i64 hi1, .slice x4.A x4.n x4.c, .slice y4.A y4.n y4.c, .slice z4.A z4.n z4.c] 34)))
  have HB_54 := Aside0.mk (below_step HB_46.out (below_alloc (Below.refl _ w5) (.cells #[.int .i64 e1, .int .i64 e2, .slice q4.A q4.n q4.c, .int .i64 c1, .int .i64 s1, .int .i64 lo1, .int .i64 hi1, .slice x4.A x4.n x4.c, .slice y4.A y4.n y4.c, .slice z4.A z4.n z4.c] 34)))
  have Z_55 := Aside0.mk (show (w5.alloc (.cells #[.int .i64 e1, .int .i64 e2, .slice q4.A q4.n q4.c, .int .i64 c1, .int .i64 s1, .int .i64 lo1, .int .i64 hi1, .slice x4.A x4.n x4.c, .slice y4.A y4.n y4.c, .slice z4.A z4.n z4.c] 34)).heap.size = w5.heap.size + 1 by simp)
  have bg0_56 := Aside0.mk (Bx.new w5 34 #[.int .i64 e1, .int .i64 e2, .slice q4.A q4.n q4.c, .int .i64 c1, .int .i64 s1, .int .i64 lo1, .int .i64 hi1, .slice x4.A x4.n x4.c, .slice y4.A y4.n y4.c, .slice z4.A z4.n z4.c])
  clear arg_41 w0_42 bw0_43 S3_44 x0_45 g0_39 HB_46
  obtain ⟨bg056c0, bg056c1, bg056c2, bg056c3, bg056c4, bg056c5, bg056c6, bg056c7, bg056c8, bg056c9⟩ := bg0_56.out.cells10
  obtain ⟨bw057c0, bw057c1, bw057c2, bw057c3, bw057c4, bw057c5, bw057c6, bw057c7, bw057c8, bw057c9⟩ := bw0_50.out.cells10
  go_wp2_with fail
  clear bg056c0 bg056c1 bg056c2 bg056c3 bg056c4 bg056c5 bg056c6 bg056c7 bg056c8 bg056c9 bw057c0 bw057c1 bw057c2 bw057c3 bw057c4 bw057c5 bw057c6 bw057c7 bw057c8 bw057c9
  refine (eqE_callD k e1 e2 c1 s1 lo1 hi1 g0_53.out.rd w0_49.out.rd EQ1.out).mono ?_
  rintro e w6 ⟨rfl, hb⟩
  have arg_59 := Aside0.mk (arg_48.out.below hb)
  have w0_60 := Aside0.mk (w0_49.out.below hb)
  have bw0_61 := Aside0.mk (bw0_50.out.below hb)
  have S3_62 := Aside0.mk (S3_51.out.below hb)
  have x0_63 := Aside0.mk (x0_52.out.below hb)
  have g0_64 := Aside0.mk (g0_53.out.below hb)
  have bg0_65 := Aside0.mk (bg0_56.out.below hb)
  have HB_66 := Aside0.mk (below_step HB_54.out hb)
  have Z_67 := Aside0.mk (hb.size)
  clear arg_48 w0_49 bw0_50 S3_51 x0_52 g0_53 bg0_56 HB_54 hb
  obtain ⟨x067c0, x067c1, x067c2, x067c3, x067c4, x067c5, x067c6, x067c7, x067c8, x067c9, x067c10⟩ := x0_63.out.cells11
  obtain ⟨arg68c0, arg68c1, arg68c2, arg68c3, arg68c4, arg68c5, arg68c6, arg68c7, arg68c8, arg68c9, arg68c10⟩ := arg_59.out.cells11
  go_wp2_with fail
  have arg_70 := Aside0.mk (arg_59.out.below (below_drew (Below.refl _ w6)))
  have w0_71 := Aside0.mk (w0_60.out.below (below_drew (Below.refl _ w6)))
  have bw0_72 := Aside0.mk (bw0_61.out.below (below_drew (Below.refl _ w6)))
  have S3_73 := Aside0.mk (S3_62.out.below (below_drew (Below.refl _ w6)))
  have x0_74 := Aside0.mk (x0_63.out.below (below_drew (Below.refl _ w6)))
  have g0_75 := Aside0.mk (g0_64.out.below (below_drew (Below.refl _ w6)))
  have bg0_76 := Aside0.mk (bg0_65.out.below (below_drew (Below.refl _ w6)))
  have HB_77 := Aside0.mk (below_step HB_66.out (below_drew (Below.refl _ w6)))
  have Z_78 := Aside0.mk (show w6.drew.heap.size = w6.heap.size by simp)
  clear arg_59 w0_60 bw0_61 S3_62 x0_63 g0_64 bg0_65 HB_66
  go_region_held3 (fun w' => w'.cell? ⟨w4.heap.size, 0, none⟩ = some (.int .i64 sq) ∧ w'.cell? ⟨w4.heap.size, 1, none⟩ = some (.int .i64 cl) ∧ w'.cell? ⟨w4.heap.size, 2, none⟩ = some (.int .i64 ke) ∧ w'.cell? ⟨w4.heap.size, 3, none⟩ = some (.int .i64 wi) ∧ w'.cell? ⟨w4.heap.size, 4, none⟩ = some (.int .i64 c) ∧ w'.cell? ⟨w4.heap.size, 5, none⟩ = some (.int .i64 s) ∧ w'.cell? ⟨w4.heap.size, 6, none⟩ = some (.int .i64 lo) ∧ w'.cell? ⟨w4.heap.size, 7, none⟩ = some (.int .i64 hi) ∧ w'.cell? ⟨w4.heap.size, 8, none⟩ = some (.slice x3.A x3.n x3.c) ∧ w'.cell? ⟨w4.heap.size, 9, none⟩ = some (.slice y3.A y3.n y3.c) ∧ w'.cell? ⟨w4.heap.size, 10, none⟩ = some (.slice z3.A z3.n z3.c) ∧ w'.cell? ⟨w.heap.size, 0, none⟩ = some (.int .i64 sq) ∧ w'.cell? ⟨w.heap.size, 1, none⟩ = some (.int .i64 cl) ∧ w'.cell? ⟨w.heap.size, 2, none⟩ = some (.int .i64 ke) ∧ w'.cell? ⟨w.heap.size, 3, none⟩ = some (.int .i64 wi) ∧ w'.cell? ⟨w.heap.size, 4, none⟩ = some (.int .i64 c) ∧ w'.cell? ⟨w.heap.size, 5, none⟩ = some (.int .i64 s) ∧ w'.cell? ⟨w.heap.size, 6, none⟩ = some (.int .i64 lo) ∧ w'.cell? ⟨w.heap.size, 7, none⟩ = some (.int .i64 hi) ∧ w'.cell? ⟨w.heap.size, 8, none⟩ = some (.slice x.A x.n x.c) ∧ w'.cell? ⟨w.heap.size, 9, none⟩ = some (.slice y.A y.n y.c) ∧ w'.cell? ⟨w.heap.size, 10, none⟩ = some (.slice z.A z.n z.c)) (first | go_keep | exact ⟨x089c0, x089c1, x089c2, x089c3, x089c4, x089c5, x089c6, x089c7, x089c8, x089c9, x089c10, arg90c0, arg90c1, arg90c2, arg90c3, arg90c4, arg90c5, arg90c6, arg90c7, arg90c8, arg90c9, arg90c10⟩ | exact ⟨x0101c0, x0101c1, x0101c2, x0101c3, x0101c4, x0101c5, x0101c6, x0101c7, x0101c8, x0101c9, x0101c10, arg102c0, arg102c1, arg102c2, arg102c3, arg102c4, arg102c5, arg102c6, arg102c7, arg102c8, arg102c9, arg102c10⟩) (first | (go_at_call 20; refine (toT_callD k sq cl ke wi c s lo hi (U0.out.below HB_77.out) TO.out).mono ?_; rintro e w7 ⟨x5, y5, z5, a5, b5, rfl, hs, hm, hb⟩; have S5_79 := Aside0.mk hs; clear hs; have Z_80 := Aside0.mk hm; clear hm; unfold Made at Z_80; have arg_81 := Aside0.mk (arg_70.out.below hb); have w0_82 := Aside0.mk (w0_71.out.below hb); have bw0_83 := Aside0.mk (bw0_72.out.below hb); have S3_84 := Aside0.mk (S3_73.out.below hb); have x0_85 := Aside0.mk (x0_74.out.below hb); have g0_86 := Aside0.mk (g0_75.out.below hb); have bg0_87 := Aside0.mk (bg0_76.out.below hb); have HB_88 := Aside0.mk (below_step HB_77.out hb); have Z_89 := Aside0.mk (hb.size); clear arg_70 w0_71 bw0_72 S3_73 x0_74 g0_75 bg0_76 HB_77 hb; obtain ⟨x089c0, x089c1, x089c2, x089c3, x089c4, x089c5, x089c6, x089c7, x089c8, x089c9, x089c10⟩ := x0_85.out.cells11; obtain ⟨arg90c0, arg90c1, arg90c2, arg90c3, arg90c4, arg90c5, arg90c6, arg90c7, arg90c8, arg90c9, arg90c10⟩ := arg_81.out.cells11) | (go_at_call 22; refine (eqT_callD k sq cl ke wi c s lo hi S3_84.out.rd S5_79.out.rd EQ.out).mono ?_; rintro e w8 ⟨rfl, hb⟩; have arg_92 := Aside0.mk (arg_81.out.below hb); have w0_93 := Aside0.mk (w0_82.out.below hb); have bw0_94 := Aside0.mk (bw0_83.out.below hb); have S3_95 := Aside0.mk (S3_84.out.below hb); have x0_96 := Aside0.mk (x0_85.out.below hb); have g0_97 := Aside0.mk (g0_86.out.below hb); have bg0_98 := Aside0.mk (bg0_87.out.below hb); have S5_99 := Aside0.mk (S5_79.out.below hb); have HB_100 := Aside0.mk (below_step HB_88.out hb); have Z_101 := Aside0.mk (hb.size); clear arg_81 w0_82 bw0_83 S3_84 x0_85 g0_86 bg0_87 S5_79 HB_88 hb; obtain ⟨x0101c0, x0101c1, x0101c2, x0101c3, x0101c4, x0101c5, x0101c6, x0101c7, x0101c8, x0101c9, x0101c10⟩ := x0_96.out.cells11; obtain ⟨arg102c0, arg102c1, arg102c2, arg102c3, arg102c4, arg102c5, arg102c6, arg102c7, arg102c8, arg102c9, arg102c10⟩ := arg_92.out.cells11))
  try clear x0101c0 x0101c1 x0101c2 x0101c3 x0101c4 x0101c5 x0101c6 x0101c7 x0101c8 x0101c9 x0101c10 arg102c0 arg102c1 arg102c2 arg102c3 arg102c4 arg102c5 arg102c6 arg102c7 arg102c8 arg102c9 arg102c10
  clear S5_99
  obtain ⟨x0103c0, x0103c1, x0103c2, x0103c3, x0103c4, x0103c5, x0103c6, x0103c7, x0103c8, x0103c9, x0103c10⟩ := x0_96.out.cells11
  go_wp2_with fail
  clear x0103c0 x0103c1 x0103c2 x0103c3 x0103c4 x0103c5 x0103c6 x0103c7 x0103c8 x0103c9 x0103c10
  refine (markT_call k MK sq cl ke wi c s lo hi 1 M S3_95.out (by have := Z_2.out; have := Z_6.out; have := Z_9.out; have := Z_12.out; have := Z_14.out; have := Z_18.out; have := Z_22.out; have := Z_26.out; have := Z_31.out; have := Z_37.out; have := Z_40.out; have := Z_47.out; have := Z_55.out; have := Z_67.out; have := Z_78.out; have := Z_80.out; have := Z_89.out; have := Z_101.out; omega) (by have := Z_2.out; have := Z_6.out; have := Z_9.out; have := Z_12.out; have := Z_14.out; have := Z_18.out; have := Z_22.out; have := Z_26.out; have := Z_31.out; have := Z_37.out; have := Z_40.out; have := Z_47.out; have := Z_55.out; have := Z_67.out; have := Z_78.out; have := Z_80.out; have := Z_89.out; have := Z_101.out; omega) (by omega) LM).mono ?_
  rintro e w9 ⟨rfl, hs, hk⟩
  have S3_105 := Aside0.mk hs
  clear hs
  clear S3_95
  have arg_106 := Aside0.mk (arg_92.out.kp hk (by have := Z_2.out; have := Z_6.out; have := Z_9.out; have := Z_12.out; have := Z_14.out; have := Z_18.out; have := Z_22.out; have := Z_26.out; have := Z_31.out; have := Z_37.out; have := Z_40.out; have := Z_47.out; have := Z_55.out; have := Z_67.out; have := Z_78.out; have := Z_80.out; have := Z_89.out; have := Z_101.out; omega))
  have w0_107 := Aside0.mk (w0_93.out.kp hk (by have := Z_2.out; have := Z_6.out; have := Z_9.out; have := Z_12.out; have := Z_14.out; have := Z_18.out; have := Z_22.out; have := Z_26.out; have := Z_31.out; have := Z_37.out; have := Z_40.out; have := Z_47.out; have := Z_55.out; have := Z_67.out; have := Z_78.out; have := Z_80.out; have := Z_89.out; have := Z_101.out; omega))
  have bw0_108 := Aside0.mk (bw0_94.out.kp hk (by have := Z_2.out; have := Z_6.out; have := Z_9.out; have := Z_12.out; have := Z_14.out; have := Z_18.out; have := Z_22.out; have := Z_26.out; have := Z_31.out; have := Z_37.out; have := Z_40.out; have := Z_47.out; have := Z_55.out; have := Z_67.out; have := Z_78.out; have := Z_80.out; have := Z_89.out; have := Z_101.out; omega))
  have x0_109 := Aside0.mk (x0_96.out.kp hk (by have := Z_2.out; have := Z_6.out; have := Z_9.out; have := Z_12.out; have := Z_14.out; have := Z_18.out; have := Z_22.out; have := Z_26.out; have := Z_31.out; have := Z_37.out; have := Z_40.out; have := Z_47.out; have := Z_55.out; have := Z_67.out; have := Z_78.out; have := Z_80.out; have := Z_89.out; have := Z_101.out; omega))
  have g0_110 := Aside0.mk (g0_97.out.kp hk (by have := Z_2.out; have := Z_6.out; have := Z_9.out; have := Z_12.out; have := Z_14.out; have := Z_18.out; have := Z_22.out; have := Z_26.out; have := Z_31.out; have := Z_37.out; have := Z_40.out; have := Z_47.out; have := Z_55.out; have := Z_67.out; have := Z_78.out; have := Z_80.out; have := Z_89.out; have := Z_101.out; omega))
  have bg0_111 := Aside0.mk (bg0_98.out.kp hk (by have := Z_2.out; have := Z_6.out; have := Z_9.out; have := Z_12.out; have := Z_14.out; have := Z_18.out; have := Z_22.out; have := Z_26.out; have := Z_31.out; have := Z_37.out; have := Z_40.out; have := Z_47.out; have := Z_55.out; have := Z_67.out; have := Z_78.out; have := Z_80.out; have := Z_89.out; have := Z_101.out; omega))
  have HB_112 := Aside0.mk (below_kp HB_100.out hk (by have := Z_2.out; have := Z_6.out; have := Z_9.out; have := Z_12.out; have := Z_14.out; have := Z_18.out; have := Z_22.out; have := Z_26.out; have := Z_31.out; have := Z_37.out; have := Z_40.out; have := Z_47.out; have := Z_55.out; have := Z_67.out; have := Z_78.out; have := Z_80.out; have := Z_89.out; have := Z_101.out; omega) HB_100.out.size)
  have Z_113 := Aside0.mk (hk.kept.1)
  clear arg_92 w0_93 bw0_94 x0_96 g0_97 bg0_98 HB_100 hk
  obtain ⟨bg0113c0, bg0113c1, bg0113c2, bg0113c3, bg0113c4, bg0113c5, bg0113c6, bg0113c7, bg0113c8, bg0113c9⟩ := bg0_111.out.cells10
  obtain ⟨bw0114c0, bw0114c1, bw0114c2, bw0114c3, bw0114c4, bw0114c5, bw0114c6, bw0114c7, bw0114c8, bw0114c9⟩ := bw0_108.out.cells10
  go_wp2_with fail
  clear bg0113c0 bg0113c1 bg0113c2 bg0113c3 bg0113c4 bg0113c5 bg0113c6 bg0113c7 bg0113c8 bg0113c9 bw0114c0 bw0114c1 bw0114c2 bw0114c3 bw0114c4 bw0114c5 bw0114c6 bw0114c7 bw0114c8 bw0114c9
  refine (eqE_callD k e1 e2 c1 s1 lo1 hi1 g0_110.out.rd w0_107.out.rd EQ1.out).mono ?_
  rintro e w10 ⟨rfl, hb⟩
  have arg_116 := Aside0.mk (arg_106.out.below hb)
  have w0_117 := Aside0.mk (w0_107.out.below hb)
  have bw0_118 := Aside0.mk (bw0_108.out.below hb)
  have x0_119 := Aside0.mk (x0_109.out.below hb)
  have g0_120 := Aside0.mk (g0_110.out.below hb)
  have bg0_121 := Aside0.mk (bg0_111.out.below hb)
  have S3_122 := Aside0.mk (S3_105.out.below hb)
  have HB_123 := Aside0.mk (below_step HB_112.out hb)
  have Z_124 := Aside0.mk (hb.size)
  clear arg_106 w0_107 bw0_108 x0_109 g0_110 bg0_111 S3_105 HB_112 hb
  obtain ⟨bg0124c0, bg0124c1, bg0124c2, bg0124c3, bg0124c4, bg0124c5, bg0124c6, bg0124c7, bg0124c8, bg0124c9⟩ := bg0_121.out.cells10
  go_wp2_with fail
  clear bg0124c0 bg0124c1 bg0124c2 bg0124c3 bg0124c4 bg0124c5 bg0124c6 bg0124c7 bg0124c8 bg0124c9
  refine (markE_call k MK e1 e2 c1 s1 lo1 hi1 1 K1 M1 g0_120.out (by have := Z_2.out; have := Z_6.out; have := Z_9.out; have := Z_12.out; have := Z_14.out; have := Z_18.out; have := Z_22.out; have := Z_26.out; have := Z_31.out; have := Z_37.out; have := Z_40.out; have := Z_47.out; have := Z_55.out; have := Z_67.out; have := Z_78.out; have := Z_80.out; have := Z_89.out; have := Z_101.out; have := Z_113.out; have := Z_124.out; omega) (by have := Z_2.out; have := Z_6.out; have := Z_9.out; have := Z_12.out; have := Z_14.out; have := Z_18.out; have := Z_22.out; have := Z_26.out; have := Z_31.out; have := Z_37.out; have := Z_40.out; have := Z_47.out; have := Z_55.out; have := Z_67.out; have := Z_78.out; have := Z_80.out; have := Z_89.out; have := Z_101.out; have := Z_113.out; have := Z_124.out; omega) hK1 ME LM1).mono ?_
  rintro e w11 ⟨rfl, hs, hk⟩
  have g0_126 := Aside0.mk hs
  clear hs
  clear g0_120
  have arg_127 := Aside0.mk (arg_116.out.kp hk (by have := Z_2.out; have := Z_6.out; have := Z_9.out; have := Z_12.out; have := Z_14.out; have := Z_18.out; have := Z_22.out; have := Z_26.out; have := Z_31.out; have := Z_37.out; have := Z_40.out; have := Z_47.out; have := Z_55.out; have := Z_67.out; have := Z_78.out; have := Z_80.out; have := Z_89.out; have := Z_101.out; have := Z_113.out; have := Z_124.out; omega))
  have w0_128 := Aside0.mk (w0_117.out.kp hk (by have := Z_2.out; have := Z_6.out; have := Z_9.out; have := Z_12.out; have := Z_14.out; have := Z_18.out; have := Z_22.out; have := Z_26.out; have := Z_31.out; have := Z_37.out; have := Z_40.out; have := Z_47.out; have := Z_55.out; have := Z_67.out; have := Z_78.out; have := Z_80.out; have := Z_89.out; have := Z_101.out; have := Z_113.out; have := Z_124.out; omega))
  have bw0_129 := Aside0.mk (bw0_118.out.kp hk (by have := Z_2.out; have := Z_6.out; have := Z_9.out; have := Z_12.out; have := Z_14.out; have := Z_18.out; have := Z_22.out; have := Z_26.out; have := Z_31.out; have := Z_37.out; have := Z_40.out; have := Z_47.out; have := Z_55.out; have := Z_67.out; have := Z_78.out; have := Z_80.out; have := Z_89.out; have := Z_101.out; have := Z_113.out; have := Z_124.out; omega))
  have x0_130 := Aside0.mk (x0_119.out.kp hk (by have := Z_2.out; have := Z_6.out; have := Z_9.out; have := Z_12.out; have := Z_14.out; have := Z_18.out; have := Z_22.out; have := Z_26.out; have := Z_31.out; have := Z_37.out; have := Z_40.out; have := Z_47.out; have := Z_55.out; have := Z_67.out; have := Z_78.out; have := Z_80.out; have := Z_89.out; have := Z_101.out; have := Z_113.out; have := Z_124.out; omega))
  have bg0_131 := Aside0.mk (bg0_121.out.kp hk (by have := Z_2.out; have := Z_6.out; have := Z_9.out; have := Z_12.out; have := Z_14.out; have := Z_18.out; have := Z_22.out; have := Z_26.out; have := Z_31.out; have := Z_37.out; have := Z_40.out; have := Z_47.out; have := Z_55.out; have := Z_67.out; have := Z_78.out; have := Z_80.out; have := Z_89.out; have := Z_101.out; have := Z_113.out; have := Z_124.out; omega))
  have S3_132 := Aside0.mk (S3_122.out.kp hk (by have := Z_2.out; have := Z_6.out; have := Z_9.out; have := Z_12.out; have := Z_14.out; have := Z_18.out; have := Z_22.out; have := Z_26.out; have := Z_31.out; have := Z_37.out; have := Z_40.out; have := Z_47.out; have := Z_55.out; have := Z_67.out; have := Z_78.out; have := Z_80.out; have := Z_89.out; have := Z_101.out; have := Z_113.out; have := Z_124.out; omega))
  have HB_133 := Aside0.mk (below_kp HB_123.out hk (by have := Z_2.out; have := Z_6.out; have := Z_9.out; have := Z_12.out; have := Z_14.out; have := Z_18.out; have := Z_22.out; have := Z_26.out; have := Z_31.out; have := Z_37.out; have := Z_40.out; have := Z_47.out; have := Z_55.out; have := Z_67.out; have := Z_78.out; have := Z_80.out; have := Z_89.out; have := Z_101.out; have := Z_113.out; have := Z_124.out; omega) HB_123.out.size)
  have Z_134 := Aside0.mk (hk.kept.1)
  clear arg_116 w0_117 bw0_118 x0_119 bg0_121 S3_122 HB_123 hk
  obtain ⟨bg0134c0, bg0134c1, bg0134c2, bg0134c3, bg0134c4, bg0134c5, bg0134c6, bg0134c7, bg0134c8, bg0134c9⟩ := bg0_131.out.cells10
  go_wp2_with fail
  clear bg0134c0 bg0134c1 bg0134c2 bg0134c3 bg0134c4 bg0134c5 bg0134c6 bg0134c7 bg0134c8 bg0134c9
  refine (heldE_callD k e1 e2 c1 s1 lo1 hi1 1 M1 g0_126.out.rd HE.out).mono ?_
  rintro e w12 ⟨rfl, hb⟩
  have arg_136 := Aside0.mk (arg_127.out.below hb)
  have w0_137 := Aside0.mk (w0_128.out.below hb)
  have bw0_138 := Aside0.mk (bw0_129.out.below hb)
  have x0_139 := Aside0.mk (x0_130.out.below hb)
  have bg0_140 := Aside0.mk (bg0_131.out.below hb)
  have S3_141 := Aside0.mk (S3_132.out.below hb)
  have g0_142 := Aside0.mk (g0_126.out.below hb)
  have HB_143 := Aside0.mk (below_step HB_133.out hb)
  have Z_144 := Aside0.mk (hb.size)
  clear arg_127 w0_128 bw0_129 x0_130 bg0_131 S3_132 g0_126 HB_133 hb
  obtain ⟨arg144c0, arg144c1, arg144c2, arg144c3, arg144c4, arg144c5, arg144c6, arg144c7, arg144c8, arg144c9, arg144c10⟩ := arg_136.out.cells11
  go_wp2_with fail
  clear arg144c0 arg144c1 arg144c2 arg144c3 arg144c4 arg144c5 arg144c6 arg144c7 arg144c8 arg144c9 arg144c10
  refine (toT_callD k sq cl ke wi c s lo hi (U0.out.below HB_143.out) TO.out).mono ?_
  rintro e w13 ⟨x6, y6, z6, a6, b6, rfl, hs, hm, hb⟩
  have S6_146 := Aside0.mk hs
  clear hs
  have Z_147 := Aside0.mk hm
  clear hm
  unfold Made at Z_147
  have arg_148 := Aside0.mk (arg_136.out.below hb)
  have w0_149 := Aside0.mk (w0_137.out.below hb)
  have bw0_150 := Aside0.mk (bw0_138.out.below hb)
  have x0_151 := Aside0.mk (x0_139.out.below hb)
  have bg0_152 := Aside0.mk (bg0_140.out.below hb)
  have S3_153 := Aside0.mk (S3_141.out.below hb)
  have g0_154 := Aside0.mk (g0_142.out.below hb)
  have HB_155 := Aside0.mk (below_step HB_143.out hb)
  have Z_156 := Aside0.mk (hb.size)
  clear arg_136 w0_137 bw0_138 x0_139 bg0_140 S3_141 g0_142 HB_143 hb
  go_wp2_with fail
  refine (implE_callD k ag sq cl ke wi c s lo hi e1 e2 c1 s1 lo1 hi1 l1 h1 r1 R1 t S6_146.out.rd II.out).mono ?_
  rintro e w14 ⟨q7, x7, y7, z7, a7, b7, rfl, hs, hm, hb⟩
  have h0_157 := Aside0.mk hs
  clear hs
  have Z_158 := Aside0.mk hm
  clear hm
  unfold Made at Z_158
  have arg_159 := Aside0.mk (arg_148.out.below hb)
  have w0_160 := Aside0.mk (w0_149.out.below hb)
  have bw0_161 := Aside0.mk (bw0_150.out.below hb)
  have x0_162 := Aside0.mk (x0_151.out.below hb)
  have bg0_163 := Aside0.mk (bg0_152.out.below hb)
  have S3_164 := Aside0.mk (S3_153.out.below hb)
  have g0_165 := Aside0.mk (g0_154.out.below hb)
  have S6_166 := Aside0.mk (S6_146.out.below hb)
  have HB_167 := Aside0.mk (below_step HB_155.out hb)
  have Z_168 := Aside0.mk (hb.size)
  clear arg_148 w0_149 bw0_150 x0_151 bg0_152 S3_153 g0_154 S6_146 HB_155 hb
  clear S6_166
  have arg_169 := Aside0.mk (arg_159.out.below (below_alloc (Below.refl _ w14) (.cells #[.int .i64 e1, .int .i64 e2, .slice q7.A q7.n q7.c, .int .i64 c1, .int .i64 s1, .int .i64 lo1, .int .i64 hi1, .slice x7.A x7.n x7.c, .slice y7.A y7.n y7.c, .slice z7.A z7.n z7.c] 34)))
  have w0_170 := Aside0.mk (w0_160.out.below (below_alloc (Below.refl _ w14) (.cells #[.int .i64 e1, .int .i64 e2, .slice q7.A q7.n q7.c, .int .i64 c1, .int .i64 s1, .int .i64 lo1, .int .i64 hi1, .slice x7.A x7.n x7.c, .slice y7.A y7.n y7.c, .slice z7.A z7.n z7.c] 34)))
  have bw0_171 := Aside0.mk (bw0_161.out.below (below_alloc (Below.refl _ w14) (.cells #[.int .i64 e1, .int .i64 e2, .slice q7.A q7.n q7.c, .int .i64 c1, .int .i64 s1, .int .i64 lo1, .int .i64 hi1, .slice x7.A x7.n x7.c, .slice y7.A y7.n y7.c, .slice z7.A z7.n z7.c] 34)))
  have x0_172 := Aside0.mk (x0_162.out.below (below_alloc (Below.refl _ w14) (.cells #[.int .i64 e1, .int .i64 e2, .slice q7.A q7.n q7.c, .int .i64 c1, .int .i64 s1, .int .i64 lo1, .int .i64 hi1, .slice x7.A x7.n x7.c, .slice y7.A y7.n y7.c, .slice z7.A z7.n z7.c] 34)))
  have bg0_173 := Aside0.mk (bg0_163.out.below (below_alloc (Below.refl _ w14) (.cells #[.int .i64 e1, .int .i64 e2, .slice q7.A q7.n q7.c, .int .i64 c1, .int .i64 s1, .int .i64 lo1, .int .i64 hi1, .slice x7.A x7.n x7.c, .slice y7.A y7.n y7.c, .slice z7.A z7.n z7.c] 34)))
  have S3_174 := Aside0.mk (S3_164.out.below (below_alloc (Below.refl _ w14) (.cells #[.int .i64 e1, .int .i64 e2, .slice q7.A q7.n q7.c, .int .i64 c1, .int .i64 s1, .int .i64 lo1, .int .i64 hi1, .slice x7.A x7.n x7.c, .slice y7.A y7.n y7.c, .slice z7.A z7.n z7.c] 34)))
  have g0_175 := Aside0.mk (g0_165.out.below (below_alloc (Below.refl _ w14) (.cells #[.int .i64 e1, .int .i64 e2, .slice q7.A q7.n q7.c, .int .i64 c1, .int .i64 s1, .int .i64 lo1, .int .i64 hi1, .slice x7.A x7.n x7.c, .slice y7.A y7.n y7.c, .slice z7.A z7.n z7.c] 34)))
  have h0_176 := Aside0.mk (h0_157.out.below (below_alloc (Below.refl _ w14) (.cells #[.int .i64 e1, .int .i64 e2, .slice q7.A q7.n q7.c, .int .i64 c1, .int .i64 s1, .int .i64 lo1, .int .i64 hi1, .slice x7.A x7.n x7.c, .slice y7.A y7.n y7.c, .slice z7.A z7.n z7.c] 34)))
  have HB_177 := Aside0.mk (below_step HB_167.out (below_alloc (Below.refl _ w14) (.cells #[.int .i64 e1, .int .i64 e2, .slice q7.A q7.n q7.c, .int .i64 c1, .int .i64 s1, .int .i64 lo1, .int .i64 hi1, .slice x7.A x7.n x7.c, .slice y7.A y7.n y7.c, .slice z7.A z7.n z7.c] 34)))
  have Z_178 := Aside0.mk (show (w14.alloc (.cells #[.int .i64 e1, .int .i64 e2, .slice q7.A q7.n q7.c, .int .i64 c1, .int .i64 s1, .int .i64 lo1, .int .i64 hi1, .slice x7.A x7.n x7.c, .slice y7.A y7.n y7.c, .slice z7.A z7.n z7.c] 34)).heap.size = w14.heap.size + 1 by simp)
  have bh0_179 := Aside0.mk (Bx.new w14 34 #[.int .i64 e1, .int .i64 e2, .slice q7.A q7.n q7.c, .int .i64 c1, .int .i64 s1, .int .i64 lo1, .int .i64 hi1, .slice x7.A x7.n x7.c, .slice y7.A y7.n y7.c, .slice z7.A z7.n z7.c])
  clear arg_159 w0_160 bw0_161 x0_162 bg0_163 S3_164 g0_165 h0_157 HB_167
  obtain ⟨bh0179c0, bh0179c1, bh0179c2, bh0179c3, bh0179c4, bh0179c5, bh0179c6, bh0179c7, bh0179c8, bh0179c9⟩ := bh0_179.out.cells10
  obtain ⟨bw0180c0, bw0180c1, bw0180c2, bw0180c3, bw0180c4, bw0180c5, bw0180c6, bw0180c7, bw0180c8, bw0180c9⟩ := bw0_171.out.cells10
  go_wp2_with fail
  clear bh0179c0 bh0179c1 bh0179c2 bh0179c3 bh0179c4 bh0179c5 bh0179c6 bh0179c7 bh0179c8 bh0179c9 bw0180c0 bw0180c1 bw0180c2 bw0180c3 bw0180c4 bw0180c5 bw0180c6 bw0180c7 bw0180c8 bw0180c9
  refine (eqE_callD k e1 e2 c1 s1 lo1 hi1 h0_176.out.rd w0_170.out.rd EQ1.out).mono ?_
  rintro e w15 ⟨rfl, hb⟩
  have arg_182 := Aside0.mk (arg_169.out.below hb)
  have w0_183 := Aside0.mk (w0_170.out.below hb)
  have bw0_184 := Aside0.mk (bw0_171.out.below hb)
  have x0_185 := Aside0.mk (x0_172.out.below hb)
  have bg0_186 := Aside0.mk (bg0_173.out.below hb)
  have S3_187 := Aside0.mk (S3_174.out.below hb)
  have g0_188 := Aside0.mk (g0_175.out.below hb)
  have h0_189 := Aside0.mk (h0_176.out.below hb)
  have bh0_190 := Aside0.mk (bh0_179.out.below hb)
  have HB_191 := Aside0.mk (below_step HB_177.out hb)
  have Z_192 := Aside0.mk (hb.size)
  clear arg_169 w0_170 bw0_171 x0_172 bg0_173 S3_174 g0_175 h0_176 bh0_179 HB_177 hb
  obtain ⟨bg0192c0, bg0192c1, bg0192c2, bg0192c3, bg0192c4, bg0192c5, bg0192c6, bg0192c7, bg0192c8, bg0192c9⟩ := bg0_186.out.cells10
  go_wp2_with fail
  clear bg0192c0 bg0192c1 bg0192c2 bg0192c3 bg0192c4 bg0192c5 bg0192c6 bg0192c7 bg0192c8 bg0192c9
  refine (heldE_callD k e1 e2 c1 s1 lo1 hi1 1 M1 g0_188.out.rd HE.out).mono ?_
  rintro e w16 ⟨rfl, hb⟩
  have arg_194 := Aside0.mk (arg_182.out.below hb)
  have w0_195 := Aside0.mk (w0_183.out.below hb)
  have bw0_196 := Aside0.mk (bw0_184.out.below hb)
  have x0_197 := Aside0.mk (x0_185.out.below hb)
  have bg0_198 := Aside0.mk (bg0_186.out.below hb)
  have S3_199 := Aside0.mk (S3_187.out.below hb)
  have g0_200 := Aside0.mk (g0_188.out.below hb)
  have h0_201 := Aside0.mk (h0_189.out.below hb)
  have bh0_202 := Aside0.mk (bh0_190.out.below hb)
  have HB_203 := Aside0.mk (below_step HB_191.out hb)
  have Z_204 := Aside0.mk (hb.size)
  clear arg_182 w0_183 bw0_184 x0_185 bg0_186 S3_187 g0_188 h0_189 bh0_190 HB_191 hb
  go_wp2
  go_ret
  exact ⟨rfl, HB_203.out⟩

set_option maxHeartbeats 8000000 in
theorem law1 (k : Nat) (V ag sq cl ke wi c s lo hi : Int) (x y z : Sl) (h r : List Int) (R : List (List Int)) (w : World) (u : Rd w x y z h r R)
    (SZ : Aside0 (laws_szItem.f k sq cl ke wi c s lo hi h r R 1048576 = some V)) (hV : decide (V < 0) = true) :
    Calls Try.prog 4 #[.int .i64 ag, .agg #[.int .i64 sq, .int .i64 cl, .int .i64 ke, .int .i64 wi, .int .i64 c, .int .i64 s, .int .i64 lo, .int .i64 hi, .slice x.A x.n x.c, .slice y.A y.n y.c, .slice z.A z.n z.c]] w fun e w' => e = .returned (.bool true) ∧ Below w.heap.size w w' := by
  have U0 := Aside0.mk u
  clear u
  go_enter Try.func4, Try.ntmps4
  have HB_1 := Aside0.mk ((below_alloc (Below.refl _ w) (.cells #[.int .i64 sq, .int .i64 cl, .int .i64 ke, .int .i64 wi, .int .i64 c, .int .i64 s, .int .i64 lo, .int .i64 hi, .slice x.A x.n x.c, .slice y.A y.n y.c, .slice z.A z.n z.c] 47)))
  have Z_2 := Aside0.mk (show (w.alloc (.cells #[.int .i64 sq, .int .i64 cl, .int .i64 ke, .int .i64 wi, .int .i64 c, .int .i64 s, .int .i64 lo, .int .i64 hi, .slice x.A x.n x.c, .slice y.A y.n y.c, .slice z.A z.n z.c] 47)).heap.size = w.heap.size + 1 by simp)
  have arg_3 := Aside0.mk (Bx.new w 47 #[.int .i64 sq, .int .i64 cl, .int .i64 ke, .int .i64 wi, .int .i64 c, .int .i64 s, .int .i64 lo, .int .i64 hi, .slice x.A x.n x.c, .slice y.A y.n y.c, .slice z.A z.n z.c])
  go_wp2_with fail
  refine (szT_callD k sq cl ke wi c s lo hi 1048576 V (U0.out.below HB_1.out) SZ.out).mono ?_
  rintro e w1 ⟨rfl, hb⟩
  have arg_4 := Aside0.mk (arg_3.out.below hb)
  have HB_5 := Aside0.mk (below_step HB_1.out hb)
  have Z_6 := Aside0.mk (hb.size)
  clear arg_3 HB_1 hb
  go_wp2
  go_ret
  exact ⟨rfl, HB_5.out⟩

set_option maxRecDepth 100000 in
theorem law (ag sq cl ke wi c s lo hi : Int) (A4 : Option Addr) (c4 : Nat) (h : List Int) (A5 : Option Addr) (c5 : Nat) (r : List Int) (A6 : Option Addr) (c6 : Nat) (R : List (List Int)) (w : World) (C4 : (Kd.int .i64).C w A4 h.length h) (l4 : h.length ≤ c4) (C5 : (Kd.int .i64).C w A5 r.length r) (l5 : r.length ≤ c5) (C6 : (Kd.slice 3 (Kd.int .i64)).C w A6 R.length R) (l6 : R.length ≤ c6)
    (_ : -9223372036854775808 ≤ ag ∧ ag ≤ 9223372036854775807) (_ : -9223372036854775808 ≤ sq ∧ sq ≤ 9223372036854775807) (_ : -9223372036854775808 ≤ cl ∧ cl ≤ 9223372036854775807) (_ : -9223372036854775808 ≤ ke ∧ ke ≤ 9223372036854775807) (_ : -9223372036854775808 ≤ wi ∧ wi ≤ 9223372036854775807)
    (_ : -9223372036854775808 ≤ c ∧ c ≤ 9223372036854775807) (_ : -9223372036854775808 ≤ s ∧ s ≤ 9223372036854775807) (_ : -9223372036854775808 ≤ lo ∧ lo ≤ 9223372036854775807) (_ : -9223372036854775808 ≤ hi ∧ hi ≤ 9223372036854775807)
    (hh : h.length ≤ 9223372036854775807 ∧ ∀ x ∈ h, (-9223372036854775808 ≤ x ∧ x ≤ 9223372036854775807)) (hr : r.length ≤ 9223372036854775807 ∧ ∀ x ∈ r, (-9223372036854775808 ≤ x ∧ x ≤ 9223372036854775807)) (hR : R.length ≤ 9223372036854775807 ∧ ∀ l ∈ R, (l.length ≤ 9223372036854775807 ∧ ∀ x ∈ l, (-9223372036854775808 ≤ x ∧ x ≤ 9223372036854775807))) :
    Calls Try.prog 4 #[.int .i64 ag, .agg #[.int .i64 sq, .int .i64 cl, .int .i64 ke, .int .i64 wi, .int .i64 c, .int .i64 s, .int .i64 lo, .int .i64 hi, .slice A4 h.length c4, .slice A5 r.length c5, .slice A6 R.length c6]] w fun e w' => e = .returned (.bool true) ∧ Below w.heap.size w w' := by
  have u : Rd w ⟨A4, h.length, c4⟩ ⟨A5, r.length, c5⟩ ⟨A6, R.length, c6⟩ h r R := ⟨rfl, rfl, rfl, l4, l5, l6, C4, C5, C6⟩
  obtain ⟨V, hv, hle, hall⟩ := szItem_all sq cl ke wi c s lo hi h r R 1048576 (by omega) (by omega) hh.1 hr.1 hR.1 (fun x hx => (hR.2 x hx).1)
  by_cases hneg : V < 0
  · obtain ⟨K, hK⟩ := hv
    have q1 : laws_szItem.f K sq cl ke wi c s lo hi h r R 1048576 = some V := hK K (Nat.le_refl _)
    have q2 : decide (V < 0) = true := decide_eq_true hneg
    have q3 := law1 K V ag sq cl ke wi c s lo hi _ _ _ h r R w u ⟨q1⟩ q2
    exact q3
  · obtain ⟨⟨b1, b2, b3, b4⟩, b5⟩ := hall (by omega)
    obtain ⟨id, hid⟩ := idof_some ag sq
    obtain ⟨K1, h1⟩ := hv
    obtain ⟨K2, h2⟩ := toItem_ev sq cl ke wi c s lo hi h r R b1 b2 b3 b4
    obtain ⟨K3, h3⟩ := spec_entryOf_ev ag id sq cl ke wi c s lo hi h r R hid b1 b2 b3 b4
    obtain ⟨K4, h4⟩ := impl_entryOf_ev ag id sq cl ke wi c s lo hi h r R hid b1 b2 b3 b4
    obtain ⟨K5, h5⟩ := eqItem_ev sq cl ke wi c s lo hi h r R b1 b2 b3 b4
    obtain ⟨e1, e2, l1, c1, s1, lo1, hi1, g1, r1, R1, t, ee⟩ : ∃ e1 e2 l1 c1 s1 lo1 hi1 g1 r1 R1 t, enV id sq cl ke wi c s lo hi h r R = (e1, e2, l1, c1, s1, lo1, hi1, g1, r1, R1, t) := ⟨_, _, _, _, _, _, _, _, _, _, _, rfl⟩
    obtain ⟨d0, d1, d2, d3, d4, d5⟩ := enV_lens id sq cl ke wi c s lo hi h r R ee b4
    rw [ee] at h3 h4
    obtain ⟨K6, h6⟩ := eqEntry_ev e1 e2 l1 c1 s1 lo1 hi1 g1 r1 R1 (by omega) (by omega) (by omega) (by omega) d5
    obtain ⟨K7, h7⟩ := heldEntry_ev e1 e2 c1 s1 lo1 hi1 1 l1.length g1.length r1.length R1 (by omega) (by omega) (by omega) (by omega) (by omega) d5
    obtain ⟨K8, h8⟩ := markSpanS_ev l1 1 (by omega)
    generalize hK : K1 + K2 + K3 + K4 + K5 + K6 + K7 + K8 + 1048577 = k
    have q1 : laws_szItem.f k sq cl ke wi c s lo hi h r R 1048576 = some V := h1 k (by omega)
    have q2 := h2 k (by omega)
    have q3 := h3 k (by omega)
    have q4 := h4 k (by omega)
    have q5 := h5 k (by omega)
    have q6 := h6 k (by omega)
    have q7 := h7 k (by omega)
    have q8 := h8 k (by omega)
    have q9 : MkI k := mkI k (by omega)
    have f1 : decide (V < 0) = false := decide_eq_false (by omega)
    have f2 : decide ((1 : Int) + (h.length : Int) + (r.length : Int) + (lensII R : Nat) < 0) = false := decide_eq_false (by omega)
    have f3 : decide (((1 + 2 * l1.length : Nat) : Int) + (g1.length : Int) + (r1.length : Int) + (lensII R1 : Nat) < 0) = false := decide_eq_false (by omega)
    have L := law0 k V ((1 : Int) + (h.length : Int) + (r.length : Int) + (lensII R : Nat)) (((1 + 2 * l1.length : Nat) : Int) + (g1.length : Int) + (r1.length : Int) + (lensII R1 : Nat)) ((1 + 2 * l1.length : Nat) : Int) ag sq cl ke wi c s lo hi e1 e2 c1 s1 lo1 hi1 t _ _ _ l1 (msp 1 l1.length) h r g1 r1 [] [] R R1 [] w u ⟨q1⟩ f1 ⟨q2⟩ ⟨q3⟩ ⟨q4⟩ ⟨q5⟩ ⟨q6⟩ ⟨q9⟩ ⟨rfl, by omega, b1, b2, b3, b4⟩ f2 ⟨q8⟩ (by omega) ⟨rfl, by omega, by omega, by omega, by omega, d5⟩ f3 ⟨q7⟩
    exact L

end Go.Proofs.Ytdciagkholijlaa.HFnExactEntryOf
