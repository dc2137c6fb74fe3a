/- SketchBytes of the program is SketchBytes of the reference, for all arguments; it leaves its argument as it was, and hands back memory of its own; the law is walked by hand. -/
import Derived.Test.YtnidahdhlocpnaaPFnExactSketchBytesx1
import Derived.Test.YtnidahdhlocpnaaPFnExactSketchBytesx2
import Derived.Test.YtnidahdhlocpnaaPFnExactSketchBytesx4
import Derived.Test.YtnidahdhlocpnaaPFnExactSketchBytesx6
import Derived.Test.YtnidahdhlocpnaaAid
import Derived.WalkKit
import Derived.Deep.RegionHeld3
namespace Go.Proofs.Ytnidahdhlocpnaa.HFnExactSketchBytes
open Go.RowKit Go.Proofs.Ytnidahdhlocpnaa.PFnExactSketchBytes Go.Proofs.YtnidahdhlocpnaaW.PrintWords Go.Proofs.YtnidahdhlocpnaaW.PrintLast Go.Proofs.YtnidahdhlocpnaaW.PrintMore Go.Proofs.Ytnidahdhlocpnaa.Aid
set_option linter.unusedVariables false

/-! ### sketches of one's own, by the blocks that they lie in -/
structure Sl where
  A : Option Addr
  n : Nat
  c : Nat
/-- A sketch that is read: its rows lie in blocks from a on, ahead of b. -/
def Rk (w : World) (a b : Nat) (x y z : Sl) (h r : List Int) (R : List (List Int)) : Prop :=
  Kd.R (Kd.int .i64) 3 w a (fun k => k < b) (.slice x.A x.n x.c) h ∧ Kd.R (Kd.int .i64) 3 w a (fun k => k < b) (.slice y.A y.n y.c) r ∧ Kd.N (Kd.slice 3 (Kd.int .i64)) 34 w a (fun k => a ≤ k ∧ k < b) (.slice z.A z.n z.c) R
/-- A sketch that may be written: no two of its rows share. -/
def Sk (w : World) (a b : Nat) (x y z : Sl) (h r : List Int) (R : List (List Int)) : Prop :=
  Kd.R (Kd.int .i64) 3 w a (fun k => k < b) (.slice x.A x.n x.c) h ∧ Kd.R (Kd.int .i64) 3 w a (fun k => k < b ∧ some k ≠ (Value.slice x.A x.n x.c).ownBlock) (.slice y.A y.n y.c) r ∧
  Kd.S (Kd.slice 3 (Kd.int .i64)) 34 w a (fun k => k < b ∧ some k ≠ (Value.slice x.A x.n x.c).ownBlock ∧ some k ≠ (Value.slice y.A y.n y.c).ownBlock) (.slice z.A z.n z.c) R
section
variable {w w1 w' W : World} {a b a' b' : Nat} {x y z x' y' z' : Sl} {h r h' r' : List Int} {R R' : List (List Int)}
theorem Sk.rk (s : Sk w a b x y z h r R) : Rk w a b x y z h r R :=
  ⟨s.1, Kd.R_mono s.2.1 (fun _ hk => hk.1), Kd.S_N (Kd.S_mono (Kd.S_bound s.2.2) (fun _ hk => ⟨hk.2.1, hk.1.1⟩))⟩
theorem Rk.step (s : Rk w a b x y z h r R) (hm : ∀ k, a ≤ k → k < b → k < w.heap.size → w1.heap[k]? = w.heap[k]?) : Rk w1 a b x y z h r R :=
  ⟨Kd.R_mono (Kd.R_move (Kd.R_bound s.1) (fun k hk => hm k hk.2.1 hk.1 hk.2.2.1)) (fun _ hk => hk.1), Kd.R_mono (Kd.R_move (Kd.R_bound s.2.1) (fun k hk => hm k hk.2.1 hk.1 hk.2.2.1)) (fun _ hk => hk.1), Kd.N_step s.2.2 (fun k hk hl => hm k hk.1 hk.2 hl)⟩
theorem Sk.step (s : Sk w a b x y z h r R) (hm : ∀ k, a ≤ k → k < b → k < w.heap.size → w1.heap[k]? = w.heap[k]?) : Sk w1 a b x y z h r R :=
  ⟨Kd.R_mono (Kd.R_move (Kd.R_bound s.1) (fun k hk => hm k hk.2.1 hk.1 hk.2.2.1)) (fun _ hk => hk.1), Kd.R_mono (Kd.R_move (Kd.R_bound s.2.1) (fun k hk => hm k hk.2.1 hk.1.1 hk.2.2.1)) (fun _ hk => hk.1), Kd.S_mono (Kd.S_move (Kd.S_bound s.2.2) (fun k hk => hm k hk.2.1 hk.1.1 hk.2.2.1)) (fun _ hk => hk.1)⟩
theorem Rk.below (s : Rk w a b x y z h r R) (hb : Below w.heap.size w w1) : Rk w1 a b x y z h r R := s.step (fun k _ _ hl => hb.block k hl)
theorem Sk.below (s : Sk w a b x y z h r R) (hb : Below w.heap.size w w1) : Sk w1 a b x y z h r R := s.step (fun k _ _ hl => hb.block k hl)
/-- w is kept but for the blocks from a on, ahead of b. -/
structure Kp (w w' : World) (a b : Nat) : Prop where
  os : w'.os = w.os
  tape : w'.tape = w.tape
  output : w'.output = w.output
  kept : Kept w w' (fun k => a ≤ k ∧ k < b)
theorem Kp.refl (w : World) (a b : Nat) : Kp w w a b := ⟨rfl, rfl, rfl, Kept.refl _ _⟩
theorem Kp.trans (h : Kp w w1 a b) (k : Kp w1 w' a b) : Kp w w' a b := ⟨k.os.trans h.os, k.tape.trans h.tape, k.output.trans h.output, h.kept.then_ k.kept (fun _ hk => .inl hk)⟩
theorem Kp.below (h : Kp w w1 a b) (k : Below w1.heap.size w1 w') : Kp w w' a b := ⟨k.os.trans h.os, k.tape.trans h.tape, k.output.trans h.output, h.kept.below k⟩
theorem Kp.of (h : Below w.heap.size w w1) : Kp w w1 a b := (Kp.refl w a b).below h
theorem below_kp {B : Nat} (h : Below B W w) (k : Kp w w1 a b) (hB : B ≤ a) (hS : B ≤ w.heap.size) : Below B W w1 :=
  ⟨k.os.trans h.os, k.tape.trans h.tape, k.output.trans h.output, Nat.le_trans h.size k.kept.1, fun i hi => (k.kept.2 i (Nat.lt_of_lt_of_le hi hS) (fun hs => by omega)).trans (h.block i hi)⟩
theorem Rk.kp (s : Rk w a' b' x y z h r R) (k : Kp w w1 a b) (ha : b ≤ a' ∨ b' ≤ a) : Rk w1 a' b' x y z h r R := s.step (fun i h1 h2 h3 => k.kept.2 i h3 (fun hs => by omega))
theorem Sk.kp (s : Sk w a' b' x y z h r R) (k : Kp w w1 a b) (ha : b ≤ a' ∨ b' ≤ a) : Sk w1 a' b' x y z h r R := s.step (fun i h1 h2 h3 => k.kept.2 i h3 (fun hs => by omega))
theorem Rk.reads (s : Rk w a b x y z h r R) : x.n = h.length ∧ y.n = r.length ∧ z.n = R.length ∧ x.n ≤ x.c ∧ y.n ≤ y.c ∧ z.n ≤ z.c ∧ (Kd.int .i64).C w x.A h.length h ∧ (Kd.int .i64).C w y.A r.length r ∧ (Kd.slice 3 (Kd.int .i64)).C w z.A R.length R := by
  obtain ⟨h1, h2, h3⟩ := Kd.R_reads' s.1
  obtain ⟨h4, h5, h6⟩ := Kd.R_reads' s.2.1
  obtain ⟨h7, h8, h9⟩ := Kd.N_reads' s.2.2
  exact ⟨h1, h4, h7, h2, h5, h8, h3, h6, h9⟩
/-- A box: a struct's variable in memory. -/
def Bx (w : World) (g t : Nat) (cs : Array Value) : Prop := w.heap[g]? = some (.cells cs t (0, 0))
theorem Bx.lt {g t : Nat} {cs : Array Value} (hb : Bx w g t cs) : g < w.heap.size := blk_lt hb
theorem Bx.below {g t : Nat} {cs : Array Value} (hb : Bx w g t cs) (k : Below w.heap.size w w1) : Bx w1 g t cs := blk_below hb k
theorem Bx.kp {g t : Nat} {cs : Array Value} (hb : Bx w g t cs) (k : Kp w w1 a b) (hg : g < a ∨ b ≤ g) : Bx w1 g t cs := (k.kept.2 g hb.lt (fun hs => by omega)).trans hb
theorem Bx.new (w : World) (t : Nat) (cs : Array Value) : Bx (w.alloc (.cells cs t)) w.heap.size t cs := blk_new w _
theorem Bx.cells {g t : Nat} {v0 v1 v2 v3 v4 v5 v6 : Value} (hb : Bx w g t #[v0, v1, v2, v3, v4, v5, v6]) :
    w.cell? ⟨g, 0, none⟩ = some v0 ∧ w.cell? ⟨g, 1, none⟩ = some v1 ∧ w.cell? ⟨g, 2, none⟩ = some v2 ∧ w.cell? ⟨g, 3, none⟩ = some v3 ∧ w.cell? ⟨g, 4, none⟩ = some v4 ∧ w.cell? ⟨g, 5, none⟩ = some v5 ∧ w.cell? ⟨g, 6, none⟩ = some v6 :=
  ⟨blk_cell hb 0, blk_cell hb 1, blk_cell hb 2, blk_cell hb 3, blk_cell hb 4, blk_cell hb 5, blk_cell hb 6⟩
end
/-! ### what a call is handed: sketches and rows that are read -/
structure Rd (w : World) (x y z : Sl) (h r : List Int) (R : List (List Int)) : Prop where
  e4 : x.n = h.length
  e5 : y.n = r.length
  e6 : z.n = R.length
  l4 : h.length ≤ x.c
  l5 : r.length ≤ y.c
  l6 : R.length ≤ z.c
  C4 : (Kd.int .i64).C w x.A h.length h
  C5 : (Kd.int .i64).C w y.A r.length r
  C6 : (Kd.slice 3 (Kd.int .i64)).C w z.A R.length R
section
variable {w w1 w' W : World} {a b a' b' : Nat} {x y z x' y' z' : Sl} {h r h' r' : List Int} {R R' : List (List Int)}
theorem Rd.below (s : Rd w x y z h r R) (hb : Below w.heap.size w w1) : Rd w1 x y z h r R := ⟨s.e4, s.e5, s.e6, s.l4, s.l5, s.l6, Kd.C_below s.C4 hb, Kd.C_below s.C5 hb, Kd.C_below s.C6 hb⟩
theorem Rk.rd (s : Rk w a b x y z h r R) : Rd w x y z h r R := by
  obtain ⟨e1, e2, e3, l1, l2, l3, C1, C2, C3⟩ := s.reads
  exact ⟨e1, e2, e3, by omega, by omega, by omega, C1, C2, C3⟩
theorem Sk.rd (s : Sk w a b x y z h r R) : Rd w x y z h r R := s.rk.rd
end
/-- Bytes of one's own, by the blocks that they lie in. -/
def By (w : World) (a b : Nat) (v : Sl) (l : List Int) : Prop := Kd.R (Kd.int .u8) 5 w a (fun k => k < b) (.slice v.A v.n v.c) l
structure Bd (w : World) (v : Sl) (l : List Int) : Prop where
  e : v.n = l.length
  le : l.length ≤ v.c
  C : (Kd.int .u8).C w v.A l.length l
section
variable {w w1 : World} {a b a' b' : Nat} {v : Sl} {l : List Int}
theorem By.step (s : By w a b v l) (hm : ∀ k, a ≤ k → k < b → k < w.heap.size → w1.heap[k]? = w.heap[k]?) : By w1 a b v l := Kd.R_mono (Kd.R_move (Kd.R_bound s) (fun k hk => hm k hk.2.1 hk.1 hk.2.2.1)) (fun _ hk => hk.1)
theorem By.below (s : By w a b v l) (hb : Below w.heap.size w w1) : By w1 a b v l := s.step (fun k _ _ hl => hb.block k hl)
theorem By.kp (s : By w a' b' v l) (k : Kp w w1 a b) (ha : b ≤ a' ∨ b' ≤ a) : By w1 a' b' v l := s.step (fun i h1 h2 h3 => k.kept.2 i h3 (fun hs => by omega))
theorem By.rd (s : By w a b v l) : Bd w v l := by
  obtain ⟨h1, h2, h3⟩ := Kd.R_reads' s
  exact ⟨h1, by omega, h3⟩
theorem Bd.below (s : Bd w v l) (hb : Below w.heap.size w w1) : Bd w1 v l := ⟨s.e, s.le, Kd.C_below s.C hb⟩
theorem By.of {base : Nat} {ok : Nat → Prop} {u : Value} (h : Kd.R (Kd.int .u8) 5 w base ok u l) : ∃ v : Sl, u = .slice v.A v.n v.c ∧ By w base w.heap.size v l := by
  obtain ⟨A, c, rfl⟩ := Kd.R_slice h
  exact ⟨⟨A, _, c⟩, rfl, Kd.R_mono (Kd.R_bound h) (fun _ hk => hk.2.2.1)⟩
end
/-- What was made between two worlds lies in blocks from a on, ahead of b. -/
def Made (w w' : World) (a b : Nat) : Prop := w.heap.size ≤ a ∧ a ≤ b ∧ b ≤ w'.heap.size
def marksI (k : Int) (n : Nat) : List Int := (List.range n).map fun j : Nat => k + (j : Int)
theorem marksI_length (k : Int) (n : Nat) : (marksI k n).length = n := by simp [marksI]
theorem marksI_get (k : Int) (n i : Nat) (h : i < (marksI k n).length) : (marksI k n)[i] = k + (i : Int) := by simp [marksI]
/-- What a mark writes into rows, one behind the other. -/
def marksII : Int → List (List Int) → List (List Int)
  | _, [] => []
  | k, l :: ls => marksI k l.length :: marksII (k + (l.length : Int)) ls
def lensII : List (List Int) → Nat
  | [] => 0
  | l :: ls => l.length + lensII ls
theorem marksII_length (ls : List (List Int)) : ∀ k, (marksII k ls).length = ls.length := by
  induction ls with
  | nil => intro k; rfl
  | cons l ls ih => intro k; simp [marksII, ih]
theorem lensII_take (ls : List (List Int)) : ∀ i, (h : i < ls.length) → lensII (ls.take (i + 1)) = lensII (ls.take i) + ls[i].length := by
  induction ls with
  | nil => intro i h; simp at h
  | cons l ls ih =>
    intro i h
    cases i with
    | zero => simp [lensII]
    | succ i =>
      have := ih i (by simpa using h)
      simp only [List.take_succ_cons, lensII, List.getElem_cons_succ]
      omega
theorem lensII_le (ls : List (List Int)) : ∀ i, lensII (ls.take i) ≤ lensII ls := by
  induction ls with
  | nil => intro i; simp [lensII]
  | cons l ls ih =>
    intro i
    cases i with
    | zero => simp [lensII]
    | succ i => have := ih i; simp only [List.take_succ_cons, lensII]; omega
theorem marksII_get (ls : List (List Int)) : ∀ (k : Int) (i : Nat) (h : i < ls.length), (marksII k ls)[i]'(by rw [marksII_length]; exact h) = marksI (k + (lensII (ls.take i) : Nat)) ls[i].length := by
  induction ls with
  | nil => intro k i h; simp at h
  | cons l ls ih =>
    intro k i h
    cases i with
    | zero => simp [marksII, lensII]
    | succ i =>
      have := ih (k + (l.length : Int)) i (by simpa using h)
      simp only [marksII, List.getElem_cons_succ, this, List.take_succ_cons, lensII]
      congr 1
      omega
/-- Row by row: those ahead of i are marked. -/
theorem marksII_set (ls : List (List Int)) (k : Int) (i : Nat) (h : i < ls.length) : ((marksII k ls).take i ++ ls.drop i).set i (marksI (k + (lensII (ls.take i) : Nat)) ls[i].length) = (marksII k ls).take (i + 1) ++ ls.drop (i + 1) := by
  have hl : ((marksII k ls).take i).length = i := by rw [List.length_take, marksII_length]; omega
  rw [List.set_append_right _ _ (by omega), hl, Nat.sub_self, List.drop_eq_getElem_cons h, List.set_cons_zero, List.take_succ_eq_append_getElem (by rw [marksII_length]; exact h), marksII_get ls k i h, List.append_assoc]
  rfl
theorem markI_call (k : Nat) {w : World} {a b : Nat} {v : Value} {l : List Int} {ok : Nat → Prop} (k0 : Int) (u : Kd.R (Kd.int .i64) 3 w a ok v l) (hok : ∀ k, ok k → k < b) (ha : a ≤ w.heap.size) (he : laws_markIntS.f k l k0 = some (k0 + (l.length : Int), marksI k0 l.length)) :
    Calls Try.prog 71 #[v, .int .i64 k0] w fun e w' => e = .returned (.int .i64 (k0 + (l.length : Int))) ∧ Kd.R (Kd.int .i64) 3 w' a ok v (marksI k0 l.length) ∧ Kp w w' a b ∧ Kept w w' (fun k => some k = v.ownBlock) := by
  -- the world at the row's begin: one with a blocks
  obtain ⟨w0, hw0, hB⟩ : ∃ w0 : World, w0.heap.size = a ∧ Below a w0 w := by
    refine ⟨{ w with heap := w.heap.extract 0 a }, by simp; omega, ⟨rfl, rfl, rfl, by simp; omega, fun i hi => ?_⟩⟩
    simp [Array.getElem?_extract]
    omega
  subst hw0
  have u1 : Kd.R (Kd.int .i64) 3 w w0.heap.size (fun k => some k = v.ownBlock) v l := Kd.R_tight rfl u
  refine (laws_markIntS.calls k (fun k => some k = v.ownBlock) v l k0 _ _ w0 w hB u1 he).mono ?_
  rintro e w' ⟨rfl, hr, hb, hk⟩
  refine ⟨rfl, Kd.R_reok rfl hr (fun k hk => u.1 k hk), ⟨hb.os.trans hB.os.symm, hb.tape.trans hB.tape.symm, hb.output.trans hB.output.symm, hk.mono (fun i hi => ⟨Kd.R_base u i hi.symm, hok i (u.1 i hi.symm)⟩)⟩, hk⟩
set_option maxHeartbeats 4000000 in
theorem markII_call (k : Nat) (hm : Aside0 (∀ (l : List Int) (k0 : Int), l.length ≤ 1048576 → 0 ≤ k0 → k0 ≤ 1073741824 → laws_markIntS.f k l k0 = some (k0 + (l.length : Int), marksI k0 l.length))) {w : World} {a b : Nat} {z : Sl} {R : List (List Int)} {ok : Nat → Prop} (k0 : Int) (u : Kd.S (Kd.slice 3 (Kd.int .i64)) 34 w a ok (.slice z.A z.n z.c) R) (hok : ∀ k, ok k → k < b) (ha : a ≤ w.heap.size)
    (hk0 : 0 ≤ k0) (hkb : k0 + (lensII R : Nat) ≤ 1073741824) (hR : R.length ≤ 1048576) (hl : ∀ l ∈ R, l.length ≤ 1048576) :
    Calls Try.prog 72 #[.slice z.A z.n z.c, .int .i64 k0] w fun e w' => e = .returned (.int .i64 (k0 + (lensII R : Nat))) ∧ Kd.S (Kd.slice 3 (Kd.int .i64)) 34 w' a ok (.slice z.A z.n z.c) (marksII k0 R) ∧ Kp w w' a b ∧ Kept w w' ok := by
  have hzn : z.n = R.length := (Kd.S_reads' u).1
  have HZ := Aside0.mk hzn
  have HL := Aside0.mk hl
  have HOK := Aside0.mk hok
  have U := Aside0.mk u
  have HR := Aside0.mk hR
  have HB := Aside0.mk hkb
  have HA := Aside0.mk ha
  have hzm : z.n ≤ 1048576 := by omega
  clear hzn hl hok u hR hkb ha
  go_enter Try.func72, Try.ntmps72
  go_wp2
  go_loopg [1, 5] z.n (fun gg s1 s5 wr => ∃ i : Nat, i ≤ z.n ∧ z.n - i ≤ gg ∧ s5 = .int .i64 i ∧ s1 = .int .i64 (k0 + (lensII (R.take i) : Nat)) ∧ Aside0 (Kd.S (Kd.slice 3 (Kd.int .i64)) 34 wr a ok (.slice z.A z.n z.c) ((marksII k0 R).take i ++ R.drop i)) ∧ Aside0 (Kp w wr a b) ∧ Aside0 (Kept w wr ok))
  case atStart => exact ⟨0, Nat.zero_le _, by omega, rfl, by simp [lensII], ⟨by simpa using U.out⟩, ⟨Kp.refl _ _ _⟩, ⟨Kept.refl _ _⟩⟩
  case round =>
    obtain ⟨i, hi, hg, rfl, rfl, S, KP, KT⟩ := hrel
    have lk := lensII_le R i
    have lk' : k0 + (lensII (R.take i) : Nat) ≤ 1073741824 := by have := HB.out; omega
    by_cases hlt : i < z.n
    · have hltz : (i : Int) < (z.n : Int) := by omega
      have hiR : i < R.length := by have := HZ.out; omega
      have hcl : ((marksII k0 R).take i ++ R.drop i).length = R.length := by rw [List.length_append, List.length_take, List.length_drop, marksII_length]; omega
      obtain ⟨g, cap, hv, hbg, hgs, _⟩ := Kd.S_form S.out (by rw [hcl]; omega)
      injection hv with hA hn hc
      have S2 := S.out
      rw [hA] at S2
      obtain ⟨oki, c, hcl2, hM, hcell, hoki, hH⟩ := Kd.S_lend S2 ([] : List Int) (i : Int) (by omega) (by omega)
      obtain ⟨v, rfl, hRv⟩ := hM
      have hget : ((marksII k0 R).take i ++ R.drop i).getD (i : Int).toNat [] = R[i] := by
        rw [Int.toNat_natCast, List.getD_eq_getElem?_getD, List.getElem?_append_right (by rw [List.length_take, marksII_length]; omega), List.length_take, marksII_length, Nat.min_eq_left (by omega), Nat.sub_self, List.drop_eq_getElem_cons hiR]
        rfl
      rw [hget] at hRv
      have hc0 := hcell 0 v rfl
      simp only [Int.toNat_natCast, Kd.slice, Nat.mul_one, Nat.add_zero] at hc0
      obtain ⟨A1, c1, rfl⟩ := Kd.R_slice hRv
      have hl1 : R[i].length ≤ 1048576 := HL.out _ (List.getElem_mem hiR)
      have hcall := markI_call (b := b) k (k0 + (lensII (R.take i) : Nat)) hRv (fun q hq => HOK.out q (hoki q hq).1) (Nat.le_trans HA.out KT.out.1) (hm.out _ _ hl1 (by omega) lk')
      have hts := lensII_take R i hiR
      have hset := marksII_set R k0 i hiR
      have HH := Aside0.mk hH
      have HRV := Aside0.mk hRv
      have HOI := Aside0.mk hoki
      have HTS := Aside0.mk hts
      have HSET := Aside0.mk hset
      have HAA := Aside0.mk hA
      clear hcell hcl2 hget hH hRv hoki hts hset S S2 hn hc hA hcl
      have hAz : z.A = some ⟨g, 0, none⟩ := HAA.out
      generalize hzA : z.A = zA at *
      subst hAz
      go_wp2_with (go_at_call 71; refine hcall.mono ?_; rintro e w' ⟨rfl, hr2, hkp, hkt⟩; have HR2 := Aside0.mk hr2; have HKP := Aside0.mk hkp; have HKT := Aside0.mk hkt; clear hr2 hkp hkt)
      go_roundg (z.n - (i + 1))
      case measure => omega
      case rel =>
        refine ⟨i + 1, by omega, by omega, by go_num, by rw [HTS.out]; congr 1; omega, ⟨?_⟩, ⟨KP.out.trans HKP.out⟩, ⟨?_⟩⟩
        · have h1 := Kd.H_kept HH.out HKT.out (fun q hq hn hs => hn (HRV.out.1 q hs.symm))
          have h2 := Kd.H_back h1 (x' := marksI (k0 + (lensII (R.take i) : Nat)) R[i].length) (okp := oki) ⟨_, rfl, HR2.out⟩ (fun _ hq => hq)
          rw [Int.toNat_natCast, HSET.out] at h2
          exact h2
        · exact KT.out.then_ HKT.out (fun q hq => .inl (HOI.out q (HRV.out.1 q hq.symm)).1)
    · have hltz : ¬ (i : Int) < (z.n : Int) := by omega
      have hiz : i = R.length := by have := HZ.out; omega
      have S2 := S.out
      rw [hiz, List.drop_length, List.append_nil, List.take_of_length_le (by rw [marksII_length]; exact Nat.le_refl _)] at S2
      have ht : R.take i = R := by rw [hiz, List.take_length]
      rw [ht]
      have SS := Aside0.mk S2
      clear S2 ht hiz
      go_wp2
      go_ret
      exact ⟨rfl, SS.out, KP.out, KT.out⟩
theorem row_kept {w w' : World} {a e : Nat} {ok S : Nat → Prop} {v : Value} {l : List Int} (u : Kd.R (Kd.int .i64) e w a ok v l) (hk : Kept w w' S) (hne : ∀ k, v.ownBlock = some k → ¬ S k) : Kd.R (Kd.int .i64) e w' a ok v l :=
  Kd.R_reok rfl (Kd.R_kept (Kd.R_tight rfl u) hk (fun k hk' => hne k hk'.symm)) (fun k hk' => u.1 k hk')
def MkI (k : Nat) : Prop := ∀ (l : List Int) (k0 : Int), l.length ≤ 1048576 → 0 ≤ k0 → k0 ≤ 1073741824 → laws_markIntS.f k l k0 = some (k0 + (l.length : Int), marksI k0 l.length)
set_option maxHeartbeats 4000000 in
theorem mark_call (k : Nat) (hm : Aside0 (MkI k)) {w : World} {a b : Nat} {x y z : Sl} {h r : List Int} {R : List (List Int)} (c s mn mx k0 : Int) (u : Sk w a b x y z h r R) (ha : a ≤ w.heap.size) (hb : b ≤ w.heap.size)
    (hk0 : 0 ≤ k0) (hkb : k0 + (h.length : Int) + (r.length : Int) + (lensII R : Nat) ≤ 1073741824) (hh : h.length ≤ 1048576) (hr : r.length ≤ 1048576) (hR : R.length ≤ 1048576) (hl : ∀ l ∈ R, l.length ≤ 1048576) :
    Calls Try.prog 28 #[.agg #[.int .i64 c, .int .i64 s, .int .i64 mn, .int .i64 mx, .slice x.A x.n x.c, .slice y.A y.n y.c, .slice z.A z.n z.c], .int .i64 k0] w fun e w' => e = .returned (.int .i64 (k0 + (h.length : Int) + (r.length : Int) + (lensII R : Nat))) ∧
      Sk w' a b x y z (marksI k0 h.length) (marksI (k0 + (h.length : Int)) r.length) (marksII (k0 + (h.length : Int) + (r.length : Int)) R) ∧ Kp w w' a b := by
  obtain ⟨ux, uy, uz⟩ := u
  have hB := Bx.new w 37 #[.int .i64 c, .int .i64 s, .int .i64 mn, .int .i64 mx, .slice x.A x.n x.c, .slice y.A y.n y.c, .slice z.A z.n z.c]
  have hb0 : Below w.heap.size w (w.alloc (.cells #[.int .i64 c, .int .i64 s, .int .i64 mn, .int .i64 mx, .slice x.A x.n x.c, .slice y.A y.n y.c, .slice z.A z.n z.c] 37)) := below_alloc (Below.refl _ _) _
  have call1 := fun W (hW : Below w.heap.size w W) => markI_call (b := b) k k0 (Kd.R_below ux hW) (fun _ hq => hq) (Nat.le_trans ha hW.size) (hm.out h k0 hh hk0 (by omega))
  have call2 := fun W (uy : Kd.R (Kd.int .i64) 3 W a (fun k => k < b ∧ some k ≠ (Value.slice x.A x.n x.c).ownBlock) (.slice y.A y.n y.c) r) (ha : a ≤ W.heap.size) => markI_call (b := b) k (k0 + (h.length : Int)) uy (fun _ hq => hq.1) ha (hm.out r (k0 + (h.length : Int)) hr (by omega) (by omega))
  have call3 := fun W (uz : Kd.S (Kd.slice 3 (Kd.int .i64)) 34 W a (fun k => k < b ∧ some k ≠ (Value.slice x.A x.n x.c).ownBlock ∧ some k ≠ (Value.slice y.A y.n y.c).ownBlock) (.slice z.A z.n z.c) R) (ha : a ≤ W.heap.size) => markII_call (b := b) k ⟨fun l k0 h1 h2 h3 => hm.out l k0 h1 h2 h3⟩ (k0 + (h.length : Int) + (r.length : Int)) uz (fun _ hq => hq.1) ha (by omega) hkb hR hl
  have UX := Aside0.mk ux
  have UY := Aside0.mk uy
  have UZ := Aside0.mk uz
  have HBX := Aside0.mk hB
  have HB0 := Aside0.mk hb0
  have HBB := Aside0.mk hb
  have HA := Aside0.mk ha
  have K1 := Aside0.mk call1
  have K2 := Aside0.mk call2
  have K3 := Aside0.mk call3
  clear ux uy uz hB hb0 hb ha call1 call2 call3 hkb hh hr hR hl hk0
  go_enter Try.func28, Try.ntmps28
  go_wp2_with fail
  refine (K1.out _ HB0.out).mono ?_
  rintro e w1 ⟨rfl, hr1, hkp1, hkt1⟩
  have bx1 := Bx.kp HBX.out hkp1 (.inr HBB.out)
  have y1 := row_kept (Kd.R_below UY.out HB0.out) hkt1 (fun q hq hs => (UY.out.1 q hq).2 hs)
  have z1 := Kd.S_kept (Kd.S_below UZ.out HB0.out) hkt1 (fun q hq hs => hq.2.1 hs)
  have cells := bx1.cells
  obtain ⟨_, _, _, _, _, c5, _⟩ := cells
  have X1 := Aside0.mk hr1
  have KP1 := Aside0.mk hkp1
  have BX1 := Aside0.mk bx1
  have Y1 := Aside0.mk y1
  have Z1 := Aside0.mk z1
  clear hr1 hkp1 hkt1 bx1 y1 z1
  go_wp2_with fail
  clear c5
  refine (K2.out _ Y1.out (Nat.le_trans HA.out (Nat.le_trans HB0.out.size KP1.out.kept.1))).mono ?_
  rintro e w2 ⟨rfl, hr2, hkp2, hkt2⟩
  have bx2 := Bx.kp BX1.out hkp2 (.inr HBB.out)
  have x2 := row_kept X1.out hkt2 (fun q hq hs => (UY.out.1 q hs.symm).2 hq.symm)
  have z2 := Kd.S_kept Z1.out hkt2 (fun q hq hs => hq.2.2 hs)
  have cells := bx2.cells
  obtain ⟨_, _, _, _, _, _, c6⟩ := cells
  have X2 := Aside0.mk x2
  have KP2 := Aside0.mk (KP1.out.trans hkp2)
  have BX2 := Aside0.mk bx2
  have Y2 := Aside0.mk hr2
  have Z2 := Aside0.mk z2
  clear hr2 hkp2 hkt2 bx2 x2 z2
  go_wp2_with fail
  clear c6
  refine (K3.out _ Z2.out (Nat.le_trans HA.out (Nat.le_trans HB0.out.size KP2.out.kept.1))).mono ?_
  rintro e w3 ⟨rfl, hr3, hkp3, hkt3⟩
  have x3 := row_kept X2.out hkt3 (fun q hq hs => hs.2.1 hq.symm)
  have y3 := row_kept Y2.out hkt3 (fun q hq hs => hs.2.2 hq.symm)
  have S3 := Aside0.mk (show Sk w3 a b x y z _ _ _ from ⟨x3, y3, hr3⟩)
  have KP3 := Aside0.mk (((Kp.of HB0.out).trans KP2.out).trans hkp3)
  clear hr3 hkp3 hkt3 x3 y3
  go_wp2
  go_ret
  exact ⟨rfl, S3.out, KP3.out⟩
theorem mark_callM (k : Nat) (hm : Aside0 (MkI k)) {w : World} {a b : Nat} {x y z : Sl} {h r : List Int} {R : List (List Int)} (c s mn mx k0 M : Int) (u : Sk w a b x y z h r R) (ha : a ≤ w.heap.size) (hb : b ≤ w.heap.size)
    (hk0 : 0 ≤ k0) (lm : Aside0 (k0 + (h.length : Int) + (r.length : Int) + (lensII R : Nat) = M ∧ M ≤ 1073741824 ∧ h.length ≤ 1048576 ∧ r.length ≤ 1048576 ∧ R.length ≤ 1048576 ∧ ∀ l ∈ R, l.length ≤ 1048576)) :
    Calls Try.prog 28 #[.agg #[.int .i64 c, .int .i64 s, .int .i64 mn, .int .i64 mx, .slice x.A x.n x.c, .slice y.A y.n y.c, .slice z.A z.n z.c], .int .i64 k0] w fun e w' => e = .returned (.int .i64 M) ∧
      Sk w' a b x y z (marksI k0 h.length) (marksI (k0 + (h.length : Int)) r.length) (marksII (k0 + (h.length : Int) + (r.length : Int)) R) ∧ Kp w w' a b := by
  obtain ⟨h1, h2, h3, h4, h5, h6⟩ := lm.out
  have := mark_call k hm c s mn mx k0 u ha hb hk0 (by omega) h3 h4 h5 h6
  rw [h1] at this
  exact this
theorem rdR_get {xs : List (List Int)} {n : Nat} (h : n < xs.length) : rd_L2 xs (n : Int) = xs[n] := by
  unfold rd_L2
  rw [Int.toNat_natCast, List.getD_eq_getElem?_getD, List.getElem?_eq_getElem h]
  rfl
theorem markI_at (a : Int) (n : Nat) (ha : 0 ≤ a) (hb : a ≤ 1073741824) (hn : n ≤ 1048576) (d : Nat) : ∀ (k i : Nat) (x3 : List Int), d < k → i + d = n → x3.length = n → x3.take i = (marksI a n).take i →
    laws_markIntS.l0 k x3 (a + (i : Int)) (i : Int) = some (a + (n : Int), marksI a n) := by
  induction d with
  | zero =>
    intro k i x3 hk hi hl ht
    obtain ⟨k, rfl⟩ : ∃ m, k = m + 1 := ⟨k - 1, by omega⟩
    simp only [laws_markIntS.l0]
    rw [if_neg (by omega), take_all (ys := marksI a n) (by rw [hl, marksI_length]) (by rw [marksI_length]; omega) ht, show i = n by omega]
  | succ d ih =>
    intro k i x3 hk hi hl ht
    obtain ⟨k, rfl⟩ : ∃ m, k = m + 1 := ⟨k - 1, by omega⟩
    simp only [laws_markIntS.l0]
    rw [if_pos (by omega), if_pos (by omega), w64 (x := (i : Int) + 1) (by omega) (by omega), w64 (x := a + (i : Int) + 1) (by omega) (by omega), Int.toNat_natCast]
    have e := ih k (i + 1) (x3.set i (a + (i : Int))) (by omega) (by omega) (by simp [hl]) (by
      have hm : a + (i : Int) = (marksI a n)[i]'(by rw [marksI_length]; omega) := by rw [marksI_get]
      rw [hm]
      exact take_set (ys := marksI a n) (by rw [hl, marksI_length]) (by rw [marksI_length]; omega) ht)
    rw [show (i : Int) + 1 = ((i + 1 : Nat) : Int) by omega, show a + (i : Int) + 1 = a + ((i + 1 : Nat) : Int) by omega]
    exact e
theorem mkI (k : Nat) (hk : 1048577 ≤ k) : MkI k := by
  intro l k0 hl h0 h1
  have := markI_at k0 l.length h0 h1 hl l.length k 0 l (by omega) (by omega) rfl (by simp)
  simpa [laws_markIntS.f] using this
section
variable {w' : World} {base : Nat} {ok4 ok5 ok6 : Nat → Prop} {v4 v5 v6 : Value} {h r : List Int} {R : List (List Int)}
theorem Rk.of (h4 : Kd.R (Kd.int .i64) 3 w' base ok4 v4 h) (h5 : Kd.R (Kd.int .i64) 3 w' base ok5 v5 r) (h6 : Kd.N (Kd.slice 3 (Kd.int .i64)) 34 w' base ok6 v6 R) (hok : ∀ k, ok6 k → base ≤ k) :
    ∃ x y z : Sl, v4 = .slice x.A x.n x.c ∧ v5 = .slice y.A y.n y.c ∧ v6 = .slice z.A z.n z.c ∧ Rk w' base w'.heap.size x y z h r R := by
  obtain ⟨A4, c4, rfl⟩ := Kd.R_slice h4
  obtain ⟨A5, c5, rfl⟩ := Kd.R_slice h5
  obtain ⟨A6, c6, rfl, _⟩ := Kd.N_reads h6
  exact ⟨⟨A4, _, c4⟩, ⟨A5, _, c5⟩, ⟨A6, _, c6⟩, rfl, rfl, rfl, Kd.R_mono (Kd.R_bound h4) (fun _ hk => hk.2.2.1), Kd.R_mono (Kd.R_bound h5) (fun _ hk => hk.2.2.1), Kd.N_mono (Kd.N_bound h6) (fun k hk => ⟨hok k hk.1, hk.2⟩)⟩
theorem Sk.of (h4 : Kd.R (Kd.int .i64) 3 w' base ok4 v4 h) (h5 : Kd.R (Kd.int .i64) 3 w' base ok5 v5 r) (h6 : Kd.S (Kd.slice 3 (Kd.int .i64)) 34 w' base ok6 v6 R) (hok5 : ∀ k, ok5 k → some k ≠ v4.ownBlock) (hok6 : ∀ k, ok6 k → some k ≠ v4.ownBlock ∧ some k ≠ v5.ownBlock) :
    ∃ x y z : Sl, v4 = .slice x.A x.n x.c ∧ v5 = .slice y.A y.n y.c ∧ v6 = .slice z.A z.n z.c ∧ Sk w' base w'.heap.size x y z h r R := by
  obtain ⟨A4, c4, rfl⟩ := Kd.R_slice h4
  obtain ⟨A5, c5, rfl⟩ := Kd.R_slice h5
  obtain ⟨A6, c6, rfl⟩ := Kd.S_slice h6
  exact ⟨⟨A4, _, c4⟩, ⟨A5, _, c5⟩, ⟨A6, _, c6⟩, rfl, rfl, rfl, Kd.R_mono (Kd.R_bound h4) (fun _ hk => hk.2.2.1), Kd.R_mono (Kd.R_bound h5) (fun k hk => ⟨hk.2.2.1, hok5 k hk.1⟩), Kd.S_mono (Kd.S_bound h6) (fun k hk => ⟨hk.2.2.1, hok6 k hk.1⟩)⟩
end
theorem eq_callD (k : Nat) {w : World} {x y z x' y' z' : Sl} {h r : List Int} {R : List (List Int)} (c s mn mx : Int) (u : Rd w x y z h r R) (u' : Rd w x' y' z' h r R) (he : laws_eqSketch.f k c s mn mx h r R c s mn mx h r R = some true) :
    Calls Try.prog 27 #[.agg #[.int .i64 c, .int .i64 s, .int .i64 mn, .int .i64 mx, .slice x.A x.n x.c, .slice y.A y.n y.c, .slice z.A z.n z.c], .agg #[.int .i64 c, .int .i64 s, .int .i64 mn, .int .i64 mx, .slice x'.A x'.n x'.c, .slice y'.A y'.n y'.c, .slice z'.A z'.n z'.c]] w fun e w' => e = .returned (.bool true) ∧ Below w.heap.size w w' := by
  rw [u.e4, u.e5, u.e6, u'.e4, u'.e5, u'.e6]
  exact laws_eqSketch.calls k c s mn mx _ _ h _ _ r _ _ R c s mn mx _ _ h _ _ r _ _ R true w u.C4 u.l4 u.C5 u.l5 u.C6 u.l6 u'.C4 u'.l4 u'.C5 u'.l5 u'.C6 u'.l6 ⟨rfl⟩ he
theorem sz_callD (k : Nat) {w : World} {x y z : Sl} {h r : List Int} {R : List (List Int)} (c s mn mx k0 k1 : Int) (u : Rd w x y z h r R) (he : laws_szSketch.f k c s mn mx h r R k0 = some k1) :
    Calls Try.prog 30 #[.agg #[.int .i64 c, .int .i64 s, .int .i64 mn, .int .i64 mx, .slice x.A x.n x.c, .slice y.A y.n y.c, .slice z.A z.n z.c], .int .i64 k0] w fun e w' => e = .returned (.int .i64 k1) ∧ Below w.heap.size w w' := by
  rw [u.e4, u.e5, u.e6]
  exact laws_szSketch.calls k c s mn mx _ _ h _ _ r _ _ R k0 k1 w u.C4 u.l4 u.C5 u.l5 u.C6 u.l6 he
theorem to_callD (k : Nat) {w : World} {x y z : Sl} {h r : List Int} {R : List (List Int)} (c s mn mx : Int) (u : Rd w x y z h r R) (he : laws_toSketch.f k c s mn mx h r R = some (c, s, mn, mx, h, r, R)) :
    Calls Try.prog 32 #[.agg #[.int .i64 c, .int .i64 s, .int .i64 mn, .int .i64 mx, .slice x.A x.n x.c, .slice y.A y.n y.c, .slice z.A z.n z.c]] w fun e w' => ∃ (x' y' z' : Sl) (a b : Nat), e = .returned (.agg #[.int .i64 c, .int .i64 s, .int .i64 mn, .int .i64 mx, .slice x'.A x'.n x'.c, .slice y'.A y'.n y'.c, .slice z'.A z'.n z'.c]) ∧ Sk w' a b x' y' z' h r R ∧ Made w w' a b ∧ Below w.heap.size w w' := by
  rw [u.e4, u.e5, u.e6]
  refine (laws_toSketch.calls k c s mn mx _ _ h _ _ r _ _ R c s mn mx h r R w u.C4 u.l4 u.C5 u.l5 u.C6 u.l6 he).mono ?_
  rintro e w' ⟨v4, v5, v6, rfl, h4, h5, h6, hb⟩
  obtain ⟨x', y', z', rfl, rfl, rfl, hs⟩ := Sk.of h4 h5 h6 (fun _ hk => hk) (fun _ hk => hk)
  exact ⟨x', y', z', _, _, rfl, hs, ⟨Nat.le_refl _, hb.size, Nat.le_refl _⟩, hb⟩
theorem eqB_callD (k : Nat) {w : World} {v v' : Sl} {l : List Int} (u : Bd w v l) (u' : Bd w v' l) (he : laws_eqByteS.f k l l = some true) :
    Calls Try.prog 17 #[.slice v.A v.n v.c, .slice v'.A v'.n v'.c] w fun e w' => e = .returned (.bool true) ∧ Below w.heap.size w w' := by
  rw [u.e, u'.e]
  refine (laws_eqByteS.calls k _ _ l _ _ l true w u.C u.le u'.C u'.le ⟨rfl⟩ he).mono ?_
  rintro e w' ⟨rfl, nd, rfl⟩
  exact ⟨rfl, pw_below_drewN (Below.refl _ _) _⟩
theorem heldB_callD (k : Nat) {w : World} {v : Sl} {l : List Int} (k0 k1 : Int) (u : Bd w v l) (he : laws_heldByteS.f k l k0 = some k1) :
    Calls Try.prog 19 #[.slice v.A v.n v.c, .int .i64 k0] w fun e w' => e = .returned (.int .i64 k1) ∧ Below w.heap.size w w' := by
  rw [u.e]
  refine (laws_heldByteS.calls k _ _ l k0 k1 w u.C u.le he).mono ?_
  rintro e w' ⟨rfl, nd, rfl⟩
  exact ⟨rfl, pw_below_drewN (Below.refl _ _) _⟩
theorem markB_call (k : Nat) {w : World} {a b : Nat} {v : Sl} {l : List Int} (k0 k1 : Int) (l' : List Int) (u : By w a b v l) (ha : a ≤ w.heap.size) (he : laws_markByteS.f k l k0 = some (k1, l')) :
    Calls Try.prog 18 #[.slice v.A v.n v.c, .int .i64 k0] w fun e w' => e = .returned (.int .i64 k1) ∧ By w' a b v l' ∧ Kp w w' a b := by
  obtain ⟨w0, hw0, hB⟩ : ∃ w0 : World, w0.heap.size = a ∧ Below a w0 w := by
    refine ⟨{ w with heap := w.heap.extract 0 a }, by simp; omega, ⟨rfl, rfl, rfl, by simp; omega, fun i hi => ?_⟩⟩
    simp [Array.getElem?_extract]
    omega
  subst hw0
  have u1 : Kd.R (Kd.int .u8) 5 w w0.heap.size (fun k => some k = (Value.slice v.A v.n v.c).ownBlock) (.slice v.A v.n v.c) l := Kd.R_tight rfl u
  refine (laws_markByteS.calls k (fun k => some k = (Value.slice v.A v.n v.c).ownBlock) (.slice v.A v.n v.c) l k0 _ _ w0 w hB u1 he).mono ?_
  rintro e w' ⟨rfl, hr, hb, hk⟩
  exact ⟨rfl, Kd.R_reok rfl hr (fun k hk => u.1 k hk), ⟨hb.os.trans hB.os.symm, hb.tape.trans hB.tape.symm, hb.output.trans hB.output.symm, hk.mono (fun i hi => ⟨Kd.R_base u i hi.symm, u.1 i hi.symm⟩)⟩⟩
theorem specB_callD (k : Nat) {w : World} {x y z : Sl} {h r : List Int} {R : List (List Int)} {l : List Int} (c s mn mx : Int) (u : Rd w x y z h r R) (he : spec_SketchBytes.f k c s mn mx h r R = some l) :
    Calls Try.prog 39 #[.agg #[.int .i64 c, .int .i64 s, .int .i64 mn, .int .i64 mx, .slice x.A x.n x.c, .slice y.A y.n y.c, .slice z.A z.n z.c]] w fun e w' => ∃ (v : Sl) (a b : Nat), e = .returned (.slice v.A v.n v.c) ∧ By w' a b v l ∧ Made w w' a b ∧ Below w.heap.size w w' := by
  rw [u.e4, u.e5, u.e6]
  refine (spec_SketchBytes.calls k c s mn mx _ _ h _ _ r _ _ R l w u.C4 u.l4 u.C5 u.l5 u.C6 u.l6 he).mono ?_
  rintro e w' ⟨v4, rfl, h4, hb⟩
  obtain ⟨v, rfl, hs⟩ := By.of h4
  exact ⟨v, _, _, rfl, hs, ⟨Nat.le_refl _, hb.size, Nat.le_refl _⟩, hb⟩
theorem implB_callD (k : Nat) {w : World} {x y z : Sl} {h r : List Int} {R : List (List Int)} {l : List Int} (c s mn mx : Int) (u : Rd w x y z h r R) (he : impl_SketchBytes.f k c s mn mx h r R = some l) :
    Calls Try.prog 40 #[.agg #[.int .i64 c, .int .i64 s, .int .i64 mn, .int .i64 mx, .slice x.A x.n x.c, .slice y.A y.n y.c, .slice z.A z.n z.c]] w fun e w' => ∃ (v : Sl) (a b : Nat), e = .returned (.slice v.A v.n v.c) ∧ By w' a b v l ∧ Made w w' a b ∧ Below w.heap.size w w' := by
  rw [u.e4, u.e5, u.e6]
  refine (impl_SketchBytes.calls k c s mn mx _ _ h _ _ r _ _ R l w u.C4 u.l4 u.C5 u.l5 u.C6 u.l6 he).mono ?_
  rintro e w' ⟨v4, rfl, h4, hb⟩
  obtain ⟨v, rfl, hs⟩ := By.of h4
  exact ⟨v, _, _, rfl, hs, ⟨Nat.le_refl _, hb.size, Nat.le_refl _⟩, hb⟩
theorem eqByteS_at (x0 : List Int) (hn : x0.length ≤ 140737488351232) (d : Nat) : ∀ (i : Nat), i + d = x0.length →
    Ev (fun k => laws_eqByteS.l0 k x0 x0 (i : Int)) true := by
  induction d with
  | zero =>
    intro i hi
    refine Ev.step (fun _ => rfl) ?_
    simp only [laws_eqByteS.l0]
    refine ev_neg (by omega) (ev_some rfl)
  | succ d ih =>
    intro i hi
    refine Ev.step (fun _ => rfl) ?_
    simp only [laws_eqByteS.l0]
    refine ev_pos (by omega) (ev_pos (by omega) (ev_pos (by omega) (ev_pos (by trivial) ?_)))
    rw [w64 (x := (i : Int) + 1) (by omega) (by omega), show (i : Int) + 1 = ((i + 1 : Nat) : Int) by omega]
    exact ih (i + 1) (by omega)
theorem eqByteS_ev (x0 : List Int) (hn : x0.length ≤ 140737488351232) : Ev (fun k => laws_eqByteS.f k x0 x0) true := by
  unfold laws_eqByteS.f
  exact ev_pos rfl (eqByteS_at x0 hn x0.length 0 (by omega))
theorem markByteS_at (a : Nat) (n : Nat) (hn : a + n ≤ 281474976702464) (d : Nat) : ∀ (i : Nat) (x3 : List Int), i + d = n → x3.length = n → x3.take i = (marks8 a n).take i →
    Ev (fun k => laws_markByteS.l0 k x3 ((a + i : Nat) : Int) (i : Int)) (((a + n : Nat) : Int), marks8 a n) := by
  induction d with
  | zero =>
    intro i x3 hi hl ht
    refine Ev.step (fun _ => rfl) ?_
    simp only [laws_markByteS.l0]
    refine ev_neg (by omega) (ev_some ?_)
    rw [take_all (ys := marks8 a n) (by rw [hl, marks8_length]) (by rw [marks8_length]; omega) ht, show i = n by omega]
  | succ d ih =>
    intro i x3 hi hl ht
    refine Ev.step (fun _ => rfl) ?_
    simp only [laws_markByteS.l0]
    refine ev_pos (by omega) (ev_pos (by omega) ?_)
    rw [w64 (x := (i : Int) + 1) (by omega) (by omega), w64 (x := ((a + i : Nat) : Int) + 1) (by omega) (by omega), Int.toNat_natCast, show (i : Int) + 1 = ((i + 1 : Nat) : Int) by omega, show ((a + i : Nat) : Int) + 1 = ((a + (i + 1) : Nat) : Int) by omega]
    have hm : ((a + i : Nat) : Int) % 256 = (marks8 a n)[i]'(by rw [marks8_length]; omega) := by
      rw [marks8_get]
    rw [hm]
    exact ih (i + 1) _ (by omega) (by simp [hl]) (take_set (ys := marks8 a n) (by rw [hl, marks8_length]) (by rw [marks8_length]; omega) ht)
theorem markByteS_ev (x0 : List Int) (a : Nat) (hn : a + x0.length ≤ 281474976702464) : Ev (fun k => laws_markByteS.f k x0 (a : Int)) (((a + x0.length : Nat) : Int), marks8 a x0.length) := by
  unfold laws_markByteS.f
  exact markByteS_at a x0.length hn x0.length 0 x0 (by omega) rfl (by simp)
theorem heldByteS_at (a : Nat) (n : Nat) (hn : a + n ≤ 281474976702464) (d : Nat) : ∀ (i : Nat), i + d = n →
    Ev (fun k => laws_heldByteS.l0 k (marks8 a n) ((a + i : Nat) : Int) (i : Int)) ((a + n : Nat) : Int) := by
  induction d with
  | zero =>
    intro i hi
    refine Ev.step (fun _ => rfl) ?_
    simp only [laws_heldByteS.l0, marks8_length]
    refine ev_neg (by omega) (ev_some ?_)
    rw [show i = n by omega]
  | succ d ih =>
    intro i hi
    refine Ev.step (fun _ => rfl) ?_
    simp only [laws_heldByteS.l0, marks8_length]
    refine ev_pos (by omega) (ev_pos (by omega) (ev_pos ?_ ?_))
    · rw [rd_get (show i < (marks8 a n).length by rw [marks8_length]; omega), marks8_get]
    rw [w64 (x := (i : Int) + 1) (by omega) (by omega), w64 (x := ((a + i : Nat) : Int) + 1) (by omega) (by omega), show (i : Int) + 1 = ((i + 1 : Nat) : Int) by omega, show ((a + i : Nat) : Int) + 1 = ((a + (i + 1) : Nat) : Int) by omega]
    exact ih (i + 1) (by omega)
theorem heldByteS_ev (a n : Nat) (hn : a + n ≤ 281474976702464) : Ev (fun k => laws_heldByteS.f k (marks8 a n) (a : Int)) ((a + n : Nat) : Int) := by
  unfold laws_heldByteS.f
  exact heldByteS_at a n hn n 0 (by omega)
theorem toIntS_at (x0 : List Int) (hn : x0.length ≤ 1048576) (d : Nat) : ∀ (i : Nat) (x3 : List Int), i + d = x0.length → x3.length = x0.length → x3.take i = x0.take i →
    Ev (fun k => laws_toIntS.l0 k x0 x3 (i : Int)) x0 := by
  induction d with
  | zero =>
    intro i x3 hi hl ht
    refine Ev.step (fun _ => rfl) ?_
    simp only [laws_toIntS.l0]
    refine ev_neg (by omega) (ev_some (take_all hl (by omega) ht))
  | succ d ih =>
    intro i x3 hi hl ht
    refine Ev.step (fun _ => rfl) ?_
    simp only [laws_toIntS.l0]
    refine ev_pos (by omega) (ev_pos (by omega) (ev_pos (by omega) ?_))
    rw [wsucc (by omega), rd_get (show i < x0.length by omega), Int.toNat_natCast]
    exact ih (i + 1) _ (by omega) (by simp [hl]) (take_set hl (by omega) ht)
theorem toIntS_ev (x0 : List Int) (hn : x0.length ≤ 1048576) : Ev (fun k => laws_toIntS.f k x0) x0 := by
  unfold laws_toIntS.f
  refine ev_pos (by omega) (ev_pos (by omega) ?_)
  exact toIntS_at x0 hn x0.length 0 _ (by omega) (by simp) (by simp)
theorem eqIntS_at (x0 : List Int) (hn : x0.length ≤ 1048576) (d : Nat) : ∀ (i : Nat), i + d = x0.length →
    Ev (fun k => laws_eqIntS.l0 k x0 x0 (i : Int)) true := by
  induction d with
  | zero =>
    intro i hi
    refine Ev.step (fun _ => rfl) ?_
    simp only [laws_eqIntS.l0]
    refine ev_neg (by omega) (ev_some rfl)
  | succ d ih =>
    intro i hi
    refine Ev.step (fun _ => rfl) ?_
    simp only [laws_eqIntS.l0]
    refine ev_pos (by omega) (ev_pos (by omega) (ev_pos (by omega) (ev_pos (by trivial) ?_)))
    rw [wsucc (by omega)]
    exact ih (i + 1) (by omega)
theorem eqIntS_ev (x0 : List Int) (hn : x0.length ≤ 1048576) : Ev (fun k => laws_eqIntS.f k x0 x0) true := by
  unfold laws_eqIntS.f
  exact ev_pos (by trivial) (eqIntS_at x0 hn x0.length 0 (by omega))
theorem toIntSS_at (x0 : List (List Int)) (hn : x0.length ≤ 1048576) (hx : ∀ x ∈ x0, x.length ≤ 1048576) (d : Nat) : ∀ (i : Nat) (x3 : List (List Int)), i + d = x0.length → x3.length = x0.length → x3.take i = x0.take i →
    Ev (fun k => laws_toIntSS.l0 k x0 x3 (i : Int)) x0 := by
  induction d with
  | zero =>
    intro i x3 hi hl ht
    refine Ev.step (fun _ => rfl) ?_
    simp only [laws_toIntSS.l0]
    refine ev_neg (by omega) (ev_some (take_all hl (by omega) ht))
  | succ d ih =>
    intro i x3 hi hl ht
    refine Ev.step (fun _ => rfl) ?_
    simp only [laws_toIntSS.l0]
    rw [wsucc (by omega), rdR_get (show i < x0.length by omega), Int.toNat_natCast]
    refine ev_pos (by omega) (ev_pos (by omega) (Ev.bind (toIntS_ev _ (hx _ (List.getElem_mem (by omega)))) (ev_pos (by omega) ?_)))
    exact ih (i + 1) _ (by omega) (by simp [hl]) (take_set hl (by omega) ht)
theorem toIntSS_ev (x0 : List (List Int)) (hn : x0.length ≤ 1048576) (hx : ∀ x ∈ x0, x.length ≤ 1048576) : Ev (fun k => laws_toIntSS.f k x0) x0 := by
  unfold laws_toIntSS.f
  refine ev_pos (by omega) (ev_pos (by omega) ?_)
  exact toIntSS_at x0 hn hx x0.length 0 _ (by omega) (by simp) (by simp)
theorem toSketch_ev (c s mn mx : Int) (h r : List Int) (R : List (List Int)) (hh : h.length ≤ 1048576) (hr : r.length ≤ 1048576) (hR : R.length ≤ 1048576) (hx : ∀ x ∈ R, x.length ≤ 1048576) :
    Ev (fun k => laws_toSketch.f k c s mn mx h r R) (c, s, mn, mx, h, r, R) := by
  unfold laws_toSketch.f
  exact Ev.bind (toIntS_ev h hh) (Ev.bind (toIntS_ev r hr) (Ev.bind (toIntSS_ev R hR hx) (ev_some rfl)))
theorem szIntS_is (l0 : List Int) (a : Int) (h0 : 0 ≤ a) (h1 : a ≤ 1048576) (hl : l0.length ≤ 9223372036854775807) : laws_szIntS.f l0 a = some (if a < l0.length then -1 else a - l0.length) := by
  unfold laws_szIntS.f
  rw [w64 (by omega) (by omega)]
  by_cases h : a < l0.length
  · rw [if_pos (by omega), if_pos h]
  · rw [if_neg (by omega), if_neg h]
theorem szIntSS_at (R : List (List Int)) (hR : R.length ≤ 1048576) (hx : ∀ x ∈ R, x.length ≤ 9223372036854775807) (d : Nat) : ∀ (i : Nat) (a : Int), i + d = R.length → 0 ≤ a → a ≤ 1048576 →
    ∃ v, Ev (fun k => laws_szIntSS.l0 k R a (i : Int)) v ∧ v ≤ a ∧ (0 ≤ v → ∀ x ∈ R.drop i, x.length ≤ 1048576) := by
  induction d with
  | zero =>
    intro i a hi h0 h1
    refine ⟨a, Ev.step (fun _ => rfl) ?_, Int.le_refl _, fun _ x hxx => ?_⟩
    · simp only [laws_szIntSS.l0]
      exact ev_neg (by omega) (ev_some rfl)
    · rw [List.drop_of_length_le (by omega)] at hxx
      cases hxx
  | succ d ih =>
    intro i a hi h0 h1
    have hg : i < R.length := by omega
    have hb := hx R[i] (List.getElem_mem hg)
    by_cases hs : a < (R[i]).length
    · refine ⟨-1, Ev.step (fun _ => rfl) ?_, by omega, fun h => by omega⟩
      simp only [laws_szIntSS.l0]
      rw [rdR_get hg]
      refine ev_pos (by omega) (ev_pos (by omega) (ev_bind0 (szIntS_is _ _ h0 h1 hb) ?_))
      rw [if_pos hs]
      exact ev_pos (by omega) (ev_some rfl)
    · obtain ⟨v, hv, hle, hall⟩ := ih (i + 1) (a - (R[i]).length) (by omega) (by omega) (by omega)
      refine ⟨v, Ev.step (fun _ => rfl) ?_, by omega, fun h x hxx => ?_⟩
      · simp only [laws_szIntSS.l0]
        rw [rdR_get hg, wsucc (by omega)]
        refine ev_pos (by omega) (ev_pos (by omega) (ev_bind0 (szIntS_is _ _ h0 h1 hb) ?_))
        rw [if_neg hs]
        exact ev_neg (by omega) hv
      · rw [List.drop_eq_getElem_cons hg] at hxx
        rcases List.mem_cons.1 hxx with rfl | hxx
        · omega
        · exact hall h x hxx
theorem szSketch_ev (c s mn mx : Int) (h r : List Int) (R : List (List Int)) (a : Int) (h0 : 0 ≤ a) (h1 : a ≤ 1048576) (hh : h.length ≤ 9223372036854775807) (hr : r.length ≤ 9223372036854775807) (hR : R.length ≤ 9223372036854775807) (hx : ∀ x ∈ R, x.length ≤ 9223372036854775807) :
    ∃ v, Ev (fun k => laws_szSketch.f k c s mn mx h r R a) v ∧ v ≤ a ∧ (0 ≤ v → h.length ≤ 1048576 ∧ r.length ≤ 1048576 ∧ R.length ≤ 1048576 ∧ ∀ x ∈ R, x.length ≤ 1048576) := by
  by_cases a1 : a < h.length
  · refine ⟨-1, ?_, by omega, fun h => by omega⟩
    unfold laws_szSketch.f
    refine ev_bind0 (szIntS_is h a h0 h1 hh) ?_
    rw [if_pos a1]
    exact ev_pos (by omega) (ev_some rfl)
  by_cases a2 : a - h.length < r.length
  · refine ⟨-1, ?_, by omega, fun h => by omega⟩
    unfold laws_szSketch.f
    refine ev_bind0 (szIntS_is h a h0 h1 hh) ?_
    rw [if_neg a1]
    refine ev_neg (by omega) (ev_bind0 (szIntS_is r _ (by omega) (by omega) hr) ?_)
    rw [if_pos a2]
    exact ev_pos (by omega) (ev_some rfl)
  by_cases a3 : a - h.length - r.length < R.length
  · refine ⟨-1, ?_, by omega, fun h => by omega⟩
    unfold laws_szSketch.f
    refine ev_bind0 (szIntS_is h a h0 h1 hh) ?_
    rw [if_neg a1]
    refine ev_neg (by omega) (ev_bind0 (szIntS_is r _ (by omega) (by omega) hr) ?_)
    rw [if_neg a2]
    refine ev_neg (by omega) (Ev.bind (a := -1) ?_ (ev_pos (by omega) (ev_some rfl)))
    unfold laws_szIntSS.f
    have e : wrap64 (a - h.length - r.length - R.length) = a - h.length - r.length - R.length := w64 (by omega) (by omega)
    rw [e]
    clear e
    exact ev_pos (by omega) (ev_some rfl)
  obtain ⟨v, hv, hle, hall⟩ := szIntSS_at R (by omega) hx R.length 0 (a - h.length - r.length - R.length) (by omega) (by omega) (by omega)
  rw [List.drop_zero] at hall
  have hin : Ev (fun k => laws_szIntSS.f k R (a - h.length - r.length)) v := by
    unfold laws_szIntSS.f
    have e : wrap64 (a - h.length - r.length - R.length) = a - h.length - r.length - R.length := w64 (by omega) (by omega)
    rw [e]
    clear e
    exact ev_neg (by omega) hv
  have hout : ∀ u, Ev (fun _ => if v < 0 then some (-1) else some v) u → Ev (fun k => laws_szSketch.f k c s mn mx h r R a) u := by
    intro u hu
    unfold laws_szSketch.f
    refine ev_bind0 (szIntS_is h a h0 h1 hh) ?_
    rw [if_neg a1]
    refine ev_neg (by omega) (ev_bind0 (szIntS_is r _ (by omega) (by omega) hr) ?_)
    rw [if_neg a2]
    exact ev_neg (by omega) (Ev.bind hin hu)
  by_cases hneg : v < 0
  · exact ⟨-1, hout _ (ev_pos hneg (ev_some rfl)), by omega, fun h => by omega⟩
  · exact ⟨v, hout _ (ev_neg hneg (ev_some rfl)), by omega, fun h => ⟨by omega, by omega, by omega, hall h⟩⟩
theorem eqIntSS_at (x0 : List (List Int)) (hn : x0.length ≤ 1048576) (hx : ∀ x ∈ x0, x.length ≤ 1048576) (d : Nat) : ∀ (i : Nat), i + d = x0.length →
    Ev (fun k => laws_eqIntSS.l0 k x0 x0 (i : Int)) true := by
  induction d with
  | zero =>
    intro i hi
    refine Ev.step (fun _ => rfl) ?_
    simp only [laws_eqIntSS.l0]
    refine ev_neg (by omega) (ev_some rfl)
  | succ d ih =>
    intro i hi
    refine Ev.step (fun _ => rfl) ?_
    simp only [laws_eqIntSS.l0]
    rw [wsucc (by omega), rdR_get (show i < x0.length by omega)]
    refine ev_pos (by omega) (ev_pos (by omega) (ev_pos (by omega) (Ev.bind (eqIntS_ev _ (hx _ (List.getElem_mem (by omega)))) (ev_pos (by trivial) ?_))))
    exact ih (i + 1) (by omega)
theorem eqIntSS_ev (x0 : List (List Int)) (hn : x0.length ≤ 1048576) (hx : ∀ x ∈ x0, x.length ≤ 1048576) : Ev (fun k => laws_eqIntSS.f k x0 x0) true := by
  unfold laws_eqIntSS.f
  exact ev_pos (by trivial) (eqIntSS_at x0 hn hx x0.length 0 (by omega))
theorem eqSketch_ev (c s mn mx : Int) (h r : List Int) (R : List (List Int)) (hh : h.length ≤ 1048576) (hr : r.length ≤ 1048576) (hR : R.length ≤ 1048576) (hx : ∀ x ∈ R, x.length ≤ 1048576) :
    Ev (fun k => laws_eqSketch.f k c s mn mx h r R c s mn mx h r R) true := by
  unfold laws_eqSketch.f
  refine ev_pos (by trivial) (ev_pos (by trivial) (ev_pos (by trivial) (ev_pos (by trivial) ?_)))
  exact Ev.bind (eqIntS_ev h hh) (ev_pos (by trivial) (Ev.bind (eqIntS_ev r hr) (ev_pos (by trivial) (Ev.bind (eqIntSS_ev R hR hx) (ev_pos (by trivial) (ev_some rfl))))))
theorem lensII_drop (R : List (List Int)) (i : Nat) (h : i < R.length) : lensII (R.drop i) = R[i].length + lensII (R.drop (i + 1)) := by
  rw [List.drop_eq_getElem_cons h]
  rfl
theorem szIntSS_sum (R : List (List Int)) (hR : R.length ≤ 1048576) (hx : ∀ x ∈ R, x.length ≤ 9223372036854775807) (d : Nat) : ∀ (i : Nat) (a : Int), i + d = R.length → 0 ≤ a → a ≤ 1048576 →
    ∃ v, Ev (fun k => laws_szIntSS.l0 k R a (i : Int)) v ∧ (0 ≤ v → (lensII (R.drop i) : Int) + v ≤ a) := by
  induction d with
  | zero =>
    intro i a hi h0 h1
    refine ⟨a, Ev.step (fun _ => rfl) ?_, fun _ => ?_⟩
    · simp only [laws_szIntSS.l0]
      exact ev_neg (by omega) (ev_some rfl)
    · rw [List.drop_of_length_le (by omega)]
      simp [lensII]
  | succ d ih =>
    intro i a hi h0 h1
    have hg : i < R.length := by omega
    have hb := hx R[i] (List.getElem_mem hg)
    by_cases hs : a < (R[i]).length
    · refine ⟨-1, Ev.step (fun _ => rfl) ?_, fun h => by omega⟩
      simp only [laws_szIntSS.l0]
      rw [rdR_get hg]
      refine ev_pos (by omega) (ev_pos (by omega) (ev_bind0 (szIntS_is _ _ h0 h1 hb) ?_))
      rw [if_pos hs]
      exact ev_pos (by omega) (ev_some rfl)
    · obtain ⟨v, hv, hall⟩ := ih (i + 1) (a - (R[i]).length) (by omega) (by omega) (by omega)
      refine ⟨v, Ev.step (fun _ => rfl) ?_, fun h => ?_⟩
      · simp only [laws_szIntSS.l0]
        rw [rdR_get hg, wsucc (by omega)]
        refine ev_pos (by omega) (ev_pos (by omega) (ev_bind0 (szIntS_is _ _ h0 h1 hb) ?_))
        rw [if_neg hs]
        exact ev_neg (by omega) hv
      · have := hall h
        have := lensII_drop R i hg
        omega
theorem ev_one {α : Type} {g : Nat → Option α} {a b : α} (h : Ev g a) (k : Ev g b) : a = b := by
  obtain ⟨K, hK⟩ := h
  obtain ⟨L, hL⟩ := k
  have h1 := hK (K + L) (by omega)
  rw [hL (K + L) (by omega)] at h1
  exact (Option.some.inj h1).symm
/-- The size of a sketch, and all that it bounds. -/
theorem szSketch_all (c s mn mx : Int) (h r : List Int) (R : List (List Int)) (a : Int) (h0 : 0 ≤ a) (h1 : a ≤ 1048576) (hh : h.length ≤ 9223372036854775807) (hr : r.length ≤ 9223372036854775807) (hR : R.length ≤ 9223372036854775807) (hx : ∀ x ∈ R, x.length ≤ 9223372036854775807) :
    ∃ v, Ev (fun k => laws_szSketch.f k c s mn mx h r R a) v ∧ v ≤ a ∧ (0 ≤ v → (h.length ≤ 1048576 ∧ r.length ≤ 1048576 ∧ R.length ≤ 1048576 ∧ ∀ x ∈ R, x.length ≤ 1048576) ∧ (h.length : Int) + r.length + lensII R + v ≤ a) := by
  obtain ⟨v, hv, hle, hall⟩ := szSketch_ev c s mn mx h r R a h0 h1 hh hr hR hx
  refine ⟨v, hv, hle, fun hp => ⟨hall hp, ?_⟩⟩
  obtain ⟨b1, b2, b3, b4⟩ := hall hp
  have key : ∃ u, Ev (fun k => laws_szSketch.f k c s mn mx h r R a) u ∧ (0 ≤ u → (h.length : Int) + r.length + lensII R + u ≤ a) := by
    unfold laws_szSketch.f
    by_cases g1 : a < h.length
    · refine ⟨-1, ev_bind0 (szIntS_is h a h0 h1 hh) ?_, fun h => by omega⟩
      rw [if_pos g1]
      exact ev_pos (by omega) (ev_some rfl)
    · by_cases g2 : a - h.length < r.length
      · refine ⟨-1, ev_bind0 (szIntS_is h a h0 h1 hh) ?_, fun h => by omega⟩
        rw [if_neg g1]
        refine ev_neg (by omega) (ev_bind0 (szIntS_is r _ (by omega) (by omega) hr) ?_)
        rw [if_pos g2]
        exact ev_pos (by omega) (ev_some rfl)
      · have hsz : ∃ u, Ev (fun k => laws_szIntSS.f k R (a - h.length - r.length)) u ∧ (0 ≤ u → (lensII R : Int) + u ≤ a - h.length - r.length) := by
          unfold laws_szIntSS.f
          rw [w64 (x := a - h.length - r.length - R.length) (by omega) (by omega)]
          by_cases g3 : a - h.length - r.length - R.length < 0
          · exact ⟨-1, ev_pos g3 (ev_some rfl), fun h => by omega⟩
          · obtain ⟨u, hu, hl⟩ := szIntSS_sum R b3 hx R.length 0 (a - h.length - r.length - R.length) (by omega) (by omega) (by omega)
            exact ⟨u, ev_neg g3 hu, fun hp => by have := hl hp; rw [List.drop_zero] at this; omega⟩
        obtain ⟨u, hu, hl⟩ := hsz
        by_cases g4 : u < 0
        · refine ⟨-1, ev_bind0 (szIntS_is h a h0 h1 hh) ?_, fun h => by omega⟩
          rw [if_neg g1]
          refine ev_neg (by omega) (ev_bind0 (szIntS_is r _ (by omega) (by omega) hr) ?_)
          rw [if_neg g2]
          exact ev_neg (by omega) (Ev.bind hu (ev_pos g4 (ev_some rfl)))
        · refine ⟨u, ev_bind0 (szIntS_is h a h0 h1 hh) ?_, fun hp => by have := hl hp; omega⟩
          rw [if_neg g1]
          refine ev_neg (by omega) (ev_bind0 (szIntS_is r _ (by omega) (by omega) hr) ?_)
          rw [if_neg g2]
          exact ev_neg (by omega) (Ev.bind hu (ev_neg g4 (ev_some rfl)))
  obtain ⟨u, hu, hl⟩ := key
  rw [ev_one hv hu]
  exact hl (by rw [← ev_one hv hu]; exact hp)
theorem within_is (a b c : Int) : impl_within.f a b c = some (decide (b ≤ a ∧ a ≤ c)) := in_is a b c
theorem l1In_is (a b c : Int) : spec_l1In.f a b c = some (decide (b ≤ a ∧ a ≤ c)) := in_is a b c
/-- A list of so many numbers from 0 to a most, all 0 where that is asked. -/
def LiOk (xs : List Int) (n : Nat) (most : Int) (zero : Prop) : Prop := xs.length = n ∧ ∀ x ∈ xs, (0 ≤ x ∧ x ≤ most) ∧ (zero → x = 0)
/-- A summary is right. -/
def SkOk (c s mn mx : Int) (h r : List Int) (R : List (List Int)) : Prop :=
  (0 ≤ c ∧ c ≤ 1000000000) ∧ (0 ≤ s ∧ s ≤ 1000000000) ∧ (0 ≤ mn ∧ mn ≤ 1000000) ∧ (0 ≤ mx ∧ mx ≤ 1000000) ∧ mn ≤ mx ∧ R.length = 2 ∧ (c = 0 → s = 0 ∧ mx = 0) ∧
  LiOk h 8 1000000000 (c = 0) ∧ LiOk r 8 17 (c = 0) ∧ LiOk (rd_L2 R 0) 4 1000000000 (c = 0) ∧ LiOk (rd_L2 R 1) 4 1000000000 (c = 0)
noncomputable def skOk (c s mn mx : Int) (h r : List Int) (R : List (List Int)) : Bool := @decide (SkOk c s mn mx h r R) (Classical.propDecidable _)
theorem skOk_true {c s mn mx : Int} {h r : List Int} {R : List (List Int)} : skOk c s mn mx h r R = true ↔ SkOk c s mn mx h r R := by
  unfold skOk
  exact @decide_eq_true_iff _ (Classical.propDecidable _)
theorem skOk_false {c s mn mx : Int} {h r : List Int} {R : List (List Int)} (hn : ¬ SkOk c s mn mx h r R) : skOk c s mn mx h r R = false := by
  cases e : skOk c s mn mx h r R with
  | false => rfl
  | true => exact absurd (skOk_true.1 e) hn
theorem l3List_at (xs : List Int) (n : Nat) (most : Int) (z : Bool) (hn : n ≤ 8) (hl : xs.length = n) (r : Bool) (d : Nat) : ∀ i : Nat, i + d = n →
    ((∀ x ∈ xs.drop i, (0 ≤ x ∧ x ≤ most) ∧ (z = true → x = 0)) → r = true) → (¬ (∀ x ∈ xs.drop i, (0 ≤ x ∧ x ≤ most) ∧ (z = true → x = 0)) → r = false) →
    Ev (fun k => spec_l3List.l0 k xs (n : Int) most z (i : Int)) r := by
  induction d with
  | zero =>
    intro i hi h1 _
    refine Ev.step (fun _ => rfl) ?_
    simp only [spec_l3List.l0]
    refine ev_neg (by omega) (ev_some ?_)
    rw [h1]
    intro x hx
    rw [List.drop_of_length_le (by omega)] at hx
    cases hx
  | succ d ih =>
    intro i hi h1 h2
    have hg : i < xs.length := by omega
    rw [List.drop_eq_getElem_cons hg] at h1 h2
    refine Ev.step (fun _ => rfl) ?_
    simp only [spec_l3List.l0]
    rw [wsucc (by omega), rd_get hg]
    refine ev_pos (by omega) (ev_pos (by omega) (ev_pos (by omega) (ev_bind0 (l1In_is _ _ _) ?_)))
    by_cases c : 0 ≤ xs[i] ∧ xs[i] ≤ most
    · refine ev_pos (decide_eq_true c) ?_
      have hrec : (z = true → xs[i] = 0) → Ev (fun k => spec_l3List.l0 k xs (n : Int) most z ((i + 1 : Nat) : Int)) r := by
        intro hz
        refine ih (i + 1) (by omega) (fun h => h1 fun x hx => ?_) (fun h => h2 fun g => h fun x hx => g x (List.mem_cons_of_mem _ hx))
        rcases List.mem_cons.1 hx with rfl | hx
        · exact ⟨c, hz⟩
        · exact h x hx
      by_cases hz : z = true
      · refine ev_pos hz ?_
        by_cases h0 : xs[i] = 0
        · exact ev_pos h0 (hrec fun _ => h0)
        · refine ev_neg h0 (ev_some ?_)
          exact (h2 fun g => h0 ((g _ List.mem_cons_self).2 hz)).symm
      · exact ev_neg hz (hrec fun h => absurd h hz)
    · refine ev_neg (by rw [decide_eq_false c]; exact Bool.false_ne_true) (ev_some ?_)
      exact (h2 fun g => c (g _ List.mem_cons_self).1).symm
theorem l3List_ev (xs : List Int) (n : Nat) (most : Int) (z : Bool) (hn : n ≤ 8) (r : Bool) (h1 : LiOk xs n most (z = true) → r = true) (h2 : ¬ LiOk xs n most (z = true) → r = false) : Ev (fun k => spec_l3List.f k xs (n : Int) most z) r := by
  unfold spec_l3List.f
  by_cases hl : xs.length = n
  · exact ev_pos (by omega) (l3List_at xs n most z hn hl r n 0 (by omega) (fun h => h1 ⟨hl, h⟩) (fun h => h2 fun g => h g.2))
  · exact ev_neg (by omega) (ev_some (h2 fun g => hl g.1).symm)
theorem l3List_dec (xs : List Int) (n : Nat) (most : Int) (z : Bool) (hn : n ≤ 8) (Z : Prop) (hz : (z = true) = Z) : Ev (fun k => spec_l3List.f k xs (n : Int) most z) (@decide (LiOk xs n most Z) (Classical.propDecidable _)) := by
  subst hz
  exact l3List_ev xs n most z hn _ (fun h => @decide_eq_true _ (Classical.propDecidable _) h) (fun h => @decide_eq_false _ (Classical.propDecidable _) h)
theorem spec_sketchOk_j1 (c s mn mx : Int) (h r : List Int) (R : List (List Int)) (hR : R.length = 2) (f : Bool) (v : Bool)
    (hv : f = false → LiOk h 8 1000000000 (c = 0) → LiOk r 8 17 (c = 0) → LiOk (rd_L2 R 0) 4 1000000000 (c = 0) → LiOk (rd_L2 R 1) 4 1000000000 (c = 0) → v = true)
    (hn : ¬ (f = false ∧ LiOk h 8 1000000000 (c = 0) ∧ LiOk r 8 17 (c = 0) ∧ LiOk (rd_L2 R 0) 4 1000000000 (c = 0) ∧ LiOk (rd_L2 R 1) 4 1000000000 (c = 0)) → v = false) :
    Ev (fun k => spec_SketchOk.j1 k (c == 0) f c s mn mx h r R) v := by
  have ez : ((c == 0) = true) = (c = 0) := by simp
  refine Ev.step (fun _ => rfl) ?_
  simp only [spec_SketchOk.j1]
  refine ev_if (fun hf => ev_some (hn fun g => by rw [hf] at g; exact absurd g.1 (by simp)).symm) (fun hf => ?_)
  have hf' : f = false := by simpa using hf
  have L := fun xs n most hn => l3List_dec xs n most (c == 0) hn (c = 0) ez
  refine Ev.bind (L h 8 1000000000 (by omega)) ?_
  refine ev_if (fun g1 => ?_) (fun g1 => ev_some (hn fun g => g1 (@decide_eq_true _ (Classical.propDecidable _) g.2.1)).symm)
  refine Ev.bind (L r 8 17 (by omega)) ?_
  refine ev_if (fun g2 => ?_) (fun g2 => ev_some (hn fun g => g2 (@decide_eq_true _ (Classical.propDecidable _) g.2.2.1)).symm)
  refine ev_pos (by omega) (Ev.bind (L (rd_L2 R 0) 4 1000000000 (by omega)) ?_)
  refine ev_if (fun g3 => ?_) (fun g3 => ev_some (hn fun g => g3 (@decide_eq_true _ (Classical.propDecidable _) g.2.2.2.1)).symm)
  refine ev_pos (by omega) (Ev.bind (L (rd_L2 R 1) 4 1000000000 (by omega)) (ev_some ?_))
  have t1 := @of_decide_eq_true _ (Classical.propDecidable _) g1
  have t2 := @of_decide_eq_true _ (Classical.propDecidable _) g2
  have t3 := @of_decide_eq_true _ (Classical.propDecidable _) g3
  by_cases t4 : LiOk (rd_L2 R 1) 4 1000000000 (c = 0)
  · rw [hv hf' t1 t2 t3 t4]
    exact @decide_eq_true _ (Classical.propDecidable _) t4
  · rw [hn fun g => t4 g.2.2.2.2]
    exact @decide_eq_false _ (Classical.propDecidable _) t4
theorem spec_sketchOk_ev (c s mn mx : Int) (h r : List Int) (R : List (List Int)) : Ev (fun k => spec_SketchOk.f k c s mn mx h r R) (skOk c s mn mx h r R) := by
  have bad : ¬ SkOk c s mn mx h r R → Ev (fun k => spec_SketchOk.j0 k true c s mn mx h r R) (skOk c s mn mx h r R) := by
    intro hb
    refine Ev.step (fun _ => rfl) ?_
    simp only [spec_SketchOk.j0]
    exact ev_pos (by trivial) (ev_some (skOk_false hb).symm)
  unfold spec_SketchOk.f
  refine ev_bind0 (l1In_is _ _ _) ?_
  by_cases a1 : 0 ≤ c ∧ c ≤ 1000000000
  case neg => exact ev_neg (by rw [decide_eq_false a1]; exact Bool.false_ne_true) (bad fun g => a1 g.1)
  refine ev_pos (decide_eq_true a1) (ev_bind0 (l1In_is _ _ _) ?_)
  by_cases a2 : 0 ≤ s ∧ s ≤ 1000000000
  case neg => exact ev_neg (by rw [decide_eq_false a2]; exact Bool.false_ne_true) (bad fun g => a2 g.2.1)
  refine ev_pos (decide_eq_true a2) (ev_bind0 (l1In_is _ _ _) ?_)
  by_cases a3 : 0 ≤ mn ∧ mn ≤ 1000000
  case neg => exact ev_neg (by rw [decide_eq_false a3]; exact Bool.false_ne_true) (bad fun g => a3 g.2.2.1)
  refine ev_pos (decide_eq_true a3) (ev_bind0 (l1In_is _ _ _) ?_)
  by_cases a4 : 0 ≤ mx ∧ mx ≤ 1000000
  case neg => exact ev_neg (by rw [decide_eq_false a4]; exact Bool.false_ne_true) (bad fun g => a4 g.2.2.2.1)
  refine ev_pos (decide_eq_true a4) ?_
  by_cases a5 : mn ≤ mx
  case neg => exact ev_pos (by omega) (bad fun g => a5 g.2.2.2.2.1)
  refine ev_neg (by omega) ?_
  by_cases a6 : R.length = 2
  case neg =>
    have e : ((R.length : Int) != 2) = true := by simp; omega
    rw [e]
    exact bad fun g => a6 g.2.2.2.2.2.1
  have e : ((R.length : Int) != 2) = false := by simp; omega
  rw [e]
  refine Ev.step (fun _ => rfl) ?_
  simp only [spec_SketchOk.j0]
  refine ev_neg (by simp) ?_
  have fin : ∀ f : Bool, (f = false ↔ (c = 0 → s = 0 ∧ mx = 0)) → Ev (fun k => spec_SketchOk.j1 k (c == 0) f c s mn mx h r R) (skOk c s mn mx h r R) := by
    intro f hf
    refine spec_sketchOk_j1 c s mn mx h r R a6 f _ (fun g1 g2 g3 g4 g5 => skOk_true.2 ⟨a1, a2, a3, a4, a5, a6, hf.1 g1, g2, g3, g4, g5⟩) (fun g => skOk_false fun q => g ⟨hf.2 q.2.2.2.2.2.2.1, q.2.2.2.2.2.2.2⟩)
  refine ev_if (fun z => ?_) (fun z => fin false ⟨fun _ h => absurd h z, fun _ => rfl⟩)
  refine ev_if (fun z2 => fin _ ?_) (fun z2 => fin true ⟨fun h => by simp at h, fun h => absurd (h z).1 z2⟩)
  constructor
  · intro h _
    exact ⟨z2, by simpa using h⟩
  · intro h
    simpa using (h z).2
theorem sum_bd (ys : List Int) (h : ∀ x ∈ ys, 0 ≤ x ∧ x ≤ 1000000000) : 0 ≤ ys.sum ∧ ys.sum ≤ ys.length * 1000000000 := by
  induction ys with
  | nil => simp
  | cons y ys ih =>
    have h1 := h y List.mem_cons_self
    have h2 := ih fun x hx => h x (List.mem_cons_of_mem _ hx)
    rw [List.sum_cons, List.length_cons]
    omega
theorem sum_zero (ys : List Int) (h : ∀ x ∈ ys, 0 ≤ x ∧ x ≤ 1000000000) (h0 : ys.sum = 0) : ∀ x ∈ ys, x = 0 := by
  induction ys with
  | nil => exact fun x hx => by cases hx
  | cons y ys ih =>
    intro x hx
    have h1 := h y List.mem_cons_self
    have h2 := sum_bd ys fun x hx => h x (List.mem_cons_of_mem _ hx)
    rw [List.sum_cons] at h0
    rcases List.mem_cons.1 hx with rfl | hx
    · omega
    · exact ih (fun x hx => h x (List.mem_cons_of_mem _ hx)) (by omega) x hx
theorem zero_sum (ys : List Int) (h : ∀ x ∈ ys, x = 0) : ys.sum = 0 := by
  induction ys with
  | nil => rfl
  | cons y ys ih =>
    rw [List.sum_cons, h y List.mem_cons_self, ih fun x hx => h x (List.mem_cons_of_mem _ hx)]
    rfl
theorem copyInts_is (xs : List Int) (h : xs.length ≤ 1048576) : impl_copyInts.f xs = some xs := by
  unfold impl_copyInts.f
  rw [if_pos (by simp; omega)]
  rfl
theorem counts_ev (c s mn mx : Int) (h r A B : List Int) (hh : h.length ≤ 8) (hr : r.length ≤ 8) (hA : A.length ≤ 8) (hB : B.length ≤ 8) :
    Ev (fun k => impl_counts.f k c s mn mx h r [A, B]) (((h ++ r) ++ A) ++ B) := by
  unfold impl_counts.f
  refine ev_bind0 (copyInts_is h (by omega)) (ev_pos (by omega) ?_)
  refine Ev.step (fun _ => rfl) ?_
  simp only [impl_counts.l0]
  refine ev_pos (by simp) (ev_pos (by simp) (ev_pos (by simp) ?_))
  have e0 : rd_L2 [A, B] 0 = A := rfl
  have w1 : wrap64 (0 + 1) = 1 := by unfold wrap64; omega
  have w2 : wrap64 (1 + 1) = 2 := by unfold wrap64; omega
  have e1 : rd_L2 [A, B] (wrap64 (0 + 1)) = B := by rw [w1]; rfl
  refine ev_pos (by rw [e0]; simp; omega) ?_
  refine Ev.step (fun _ => rfl) ?_
  simp only [impl_counts.l0]
  refine ev_pos (by rw [w1]; simp) (ev_pos (by rw [w1]; omega) (ev_pos (by rw [w1]; simp) ?_))
  refine ev_pos (by rw [e0, e1]; simp; omega) ?_
  refine Ev.step (fun _ => rfl) ?_
  simp only [impl_counts.l0]
  exact ev_neg (by rw [w1, w2]; simp) (ev_some (by rw [e0, e1]))
theorem impl_sketchOk_l1 (c s mn mx : Int) (h r : List Int) (R : List (List Int)) (v : Bool) (t : Int) (hr : r.length ≤ 8) (d : Nat) : ∀ i : Nat, i + d = r.length →
    ((∀ x ∈ r.drop i, x ≤ 17) → v = if c = 0 then (t == 0) else decide (mn ≤ mx ∧ mx ≤ 1000000)) → (¬ (∀ x ∈ r.drop i, x ≤ 17) → v = false) →
    Ev (fun k => impl_SketchOk.l1 k t r (r.length : Int) (i : Int) c s mn mx h r R) v := by
  induction d with
  | zero =>
    intro i hi h1 _
    refine Ev.step (fun _ => rfl) ?_
    simp only [impl_SketchOk.l1]
    refine ev_neg (by omega) ?_
    rw [h1 (fun x hx => by rw [List.drop_of_length_le (by omega)] at hx; cases hx)]
    by_cases hc : c = 0
    · exact ev_pos hc (ev_some (by rw [if_pos hc]))
    · refine ev_neg hc (ev_if (fun g => ev_some ?_) (fun g => ev_some (by rw [if_neg hc]; exact (decide_eq_false fun q => g q.1).symm)))
      rw [if_neg hc]
      exact decide_eq_decide.mpr ⟨fun x => ⟨g, x⟩, fun x => x.2⟩
  | succ d ih =>
    intro i hi h1 h2
    have hg : i < r.length := by omega
    rw [List.drop_eq_getElem_cons hg] at h1 h2
    refine Ev.step (fun _ => rfl) ?_
    simp only [impl_SketchOk.l1]
    rw [wsucc (by omega), rd_get hg]
    refine ev_pos (by omega) (ev_pos (by omega) (ev_pos (by omega) ?_))
    by_cases g : r[i] > 17
    · exact ev_pos g (ev_some (h2 fun q => by have := q _ List.mem_cons_self; omega).symm)
    · refine ev_neg g (ih (i + 1) (by omega) (fun q => h1 fun x hx => ?_) (fun q => h2 fun p => q fun x hx => p x (List.mem_cons_of_mem _ hx)))
      rcases List.mem_cons.1 hx with rfl | hx
      · omega
      · exact q x hx
theorem impl_sketchOk_l0 (c s mn mx : Int) (h r : List Int) (R : List (List Int)) (v : Bool) (ys : List Int) (hy : ys.length ≤ 100) (d : Nat) : ∀ (i : Nat) (t : Int), i + d = ys.length → 0 ≤ t → t ≤ (i : Int) * 1000000000 →
    ((∀ x ∈ ys.drop i, 0 ≤ x ∧ x ≤ 1000000000) → Ev (fun k => impl_SketchOk.l1 k (t + (ys.drop i).sum) r (r.length : Int) 0 c s mn mx h r R) v) → (¬ (∀ x ∈ ys.drop i, 0 ≤ x ∧ x ≤ 1000000000) → v = false) →
    Ev (fun k => impl_SketchOk.l0 k t ys (ys.length : Int) (i : Int) c s mn mx h r R) v := by
  induction d with
  | zero =>
    intro i t hi h0 ht h1 _
    refine Ev.step (fun _ => rfl) ?_
    simp only [impl_SketchOk.l0]
    refine ev_neg (by omega) ?_
    rw [List.drop_of_length_le (by omega)] at h1
    have := h1 (fun x hx => by cases hx)
    rw [List.sum_nil, Int.add_zero] at this
    exact this
  | succ d ih =>
    intro i t hi h0 ht h1 h2
    have hg : i < ys.length := by omega
    rw [List.drop_eq_getElem_cons hg] at h1 h2
    refine Ev.step (fun _ => rfl) ?_
    simp only [impl_SketchOk.l0]
    rw [wsucc (by omega), rd_get hg]
    refine ev_pos (by omega) (ev_pos (by omega) (ev_pos (by omega) (ev_bind0 (within_is _ _ _) ?_)))
    by_cases g : 0 ≤ ys[i] ∧ ys[i] ≤ 1000000000
    · refine ev_pos (decide_eq_true g) ?_
      rw [w64 (x := t + ys[i]) (by omega) (by omega)]
      refine ih (i + 1) _ (by omega) (by omega) (by omega) (fun q => ?_) (fun q => h2 fun p => q fun x hx => p x (List.mem_cons_of_mem _ hx))
      rw [Int.add_assoc, ← List.sum_cons]
      refine h1 fun x hx => ?_
      rcases List.mem_cons.1 hx with rfl | hx
      · exact g
      · exact q x hx
    · exact ev_neg (by rw [decide_eq_false g]; exact Bool.false_ne_true) (ev_some (h2 fun q => g (q _ List.mem_cons_self)).symm)
theorem impl_sketchOk_ev (c s mn mx : Int) (h r : List Int) (R : List (List Int)) : Ev (fun k => impl_SketchOk.f k c s mn mx h r R) (skOk c s mn mx h r R) := by
  have bad : ¬ SkOk c s mn mx h r R → Ev (fun k => impl_SketchOk.j0 k true c s mn mx h r R) (skOk c s mn mx h r R) := by
    intro hb
    refine Ev.step (fun _ => rfl) ?_
    simp only [impl_SketchOk.j0]
    exact ev_pos (by trivial) (ev_some (skOk_false hb).symm)
  unfold impl_SketchOk.f
  by_cases a1 : h.length = 8
  case neg => exact ev_neg (by omega) (bad fun g => a1 g.2.2.2.2.2.2.2.1.1)
  refine ev_pos (by omega) ?_
  by_cases a2 : r.length = 8
  case neg => exact ev_neg (by omega) (bad fun g => a2 g.2.2.2.2.2.2.2.2.1.1)
  refine ev_pos (by omega) ?_
  by_cases a3 : R.length = 2
  case neg => exact ev_neg (by omega) (bad fun g => a3 g.2.2.2.2.2.1)
  refine ev_pos (by omega) (ev_pos (by omega) ?_)
  by_cases a4 : (rd_L2 R 0).length = 4
  case neg => exact ev_neg (by omega) (bad fun g => a4 g.2.2.2.2.2.2.2.2.2.1.1)
  refine ev_pos (by omega) (ev_pos (by omega) ?_)
  by_cases a5 : (rd_L2 R 1).length = 4
  case neg =>
    have e : (((rd_L2 R 1).length : Int) != 4) = true := by simp; omega
    rw [e]
    exact bad fun g => a5 g.2.2.2.2.2.2.2.2.2.2.1
  have e : (((rd_L2 R 1).length : Int) != 4) = false := by simp; omega
  rw [e]
  clear e bad
  obtain ⟨A, B, rfl⟩ : ∃ A B, R = [A, B] := by
    match R, a3 with
    | [A, B], _ => exact ⟨A, B, rfl⟩
  have eA : rd_L2 [A, B] 0 = A := rfl
  have eB : rd_L2 [A, B] 1 = B := rfl
  rw [eA] at a4
  rw [eB] at a5
  refine Ev.step (fun _ => rfl) ?_
  simp only [impl_SketchOk.j0]
  refine ev_neg (by simp) (Ev.bind (counts_ev c s mn mx h r A B (by omega) (by omega) (by omega) (by omega)) (ev_bind0 rfl (ev_pos ?_ (ev_bind0 rfl ?_))))
  · simp only [List.length_append, List.length_cons, List.length_nil]
    omega
  generalize hys : (((h ++ r) ++ A) ++ B) ++ [c, s, mn, mx] = ys
  have hyl : ys.length = 28 := by
    rw [← hys]
    simp only [List.length_append, List.length_cons, List.length_nil]
    omega
  have hmem : ∀ P : Int → Prop, (∀ x ∈ ys, P x) ↔ (∀ x ∈ h, P x) ∧ (∀ x ∈ r, P x) ∧ (∀ x ∈ A, P x) ∧ (∀ x ∈ B, P x) ∧ P c ∧ P s ∧ P mn ∧ P mx := by
    intro P
    rw [← hys]
    constructor
    · intro q
      exact ⟨fun x hx => q x (by simp [hx]), fun x hx => q x (by simp [hx]), fun x hx => q x (by simp [hx]), fun x hx => q x (by simp [hx]), q c (by simp), q s (by simp), q mn (by simp), q mx (by simp)⟩
    · rintro ⟨q1, q2, q3, q4, q5, q6, q7, q8⟩ x hx
      simp only [List.mem_append, List.mem_cons, List.not_mem_nil, or_false] at hx
      rcases hx with (((hx | hx) | hx) | hx) | rfl | rfl | rfl | rfl
      · exact q1 x hx
      · exact q2 x hx
      · exact q3 x hx
      · exact q4 x hx
      · exact q5
      · exact q6
      · exact q7
      · exact q8
  refine impl_sketchOk_l0 c s mn mx h r [A, B] _ ys (by omega) 28 0 0 (by omega) (by omega) (by omega) (fun q => ?_) (fun q => skOk_false fun g => q ?_)
  · rw [List.drop_zero] at q
    rw [List.drop_zero, Int.zero_add]
    have qq := (hmem _).1 q
    refine impl_sketchOk_l1 c s mn mx h r [A, B] _ ys.sum (by omega) 8 0 (by omega) (fun p => ?_) (fun p => skOk_false fun g => p fun x hx => ?_)
    · rw [List.drop_zero] at p
      by_cases hc : c = 0
      · rw [if_pos hc]
        by_cases hz : ys.sum = 0
        · have z := (hmem _).1 (sum_zero ys q hz)
          have e : (ys.sum == 0) = true := by simpa using hz
          rw [e]
          refine skOk_true.2 ⟨by omega, by omega, by omega, by omega, by omega, rfl, fun _ => ⟨z.2.2.2.2.2.1, z.2.2.2.2.2.2.2⟩, ⟨a1, fun x hx => ⟨qq.1 x hx, fun _ => z.1 x hx⟩⟩, ⟨a2, fun x hx => ⟨⟨(qq.2.1 x hx).1, p x hx⟩, fun _ => z.2.1 x hx⟩⟩, ⟨a4, fun x hx => ⟨qq.2.2.1 x hx, fun _ => z.2.2.1 x hx⟩⟩, ⟨a5, fun x hx => ⟨qq.2.2.2.1 x hx, fun _ => z.2.2.2.1 x hx⟩⟩⟩
        · have e : (ys.sum == 0) = false := by simpa using hz
          rw [e]
          refine skOk_false fun g => hz (zero_sum ys ((hmem _).2 ?_))
          obtain ⟨g1, g2, g3, g4, g5, g6, g7, g8, g9, g10, g11⟩ := g
          have := g7 hc
          exact ⟨fun x hx => (g8.2 x hx).2 hc, fun x hx => (g9.2 x hx).2 hc, fun x hx => (g10.2 x hx).2 hc, fun x hx => (g11.2 x hx).2 hc, hc, this.1, by omega, this.2⟩
      · rw [if_neg hc]
        by_cases hm : mn ≤ mx ∧ mx ≤ 1000000
        · rw [decide_eq_true hm]
          refine skOk_true.2 ⟨qq.2.2.2.2.1, qq.2.2.2.2.2.1, by omega, by omega, hm.1, rfl, fun z => absurd z hc, ⟨a1, fun x hx => ⟨qq.1 x hx, fun z => absurd z hc⟩⟩, ⟨a2, fun x hx => ⟨⟨(qq.2.1 x hx).1, p x hx⟩, fun z => absurd z hc⟩⟩, ⟨a4, fun x hx => ⟨qq.2.2.1 x hx, fun z => absurd z hc⟩⟩, ⟨a5, fun x hx => ⟨qq.2.2.2.1 x hx, fun z => absurd z hc⟩⟩⟩
        · rw [decide_eq_false hm]
          exact skOk_false fun g => hm ⟨g.2.2.2.2.1, g.2.2.2.1.2⟩
    · rw [List.drop_zero] at hx
      exact (g.2.2.2.2.2.2.2.2.1.2 x hx).1.2
  · rw [List.drop_zero]
    obtain ⟨g1, g2, g3, g4, g5, g6, g7, g8, g9, g10, g11⟩ := g
    exact (hmem _).2 ⟨fun x hx => (g8.2 x hx).1, fun x hx => by have := (g9.2 x hx).1; omega, fun x hx => (g10.2 x hx).1, fun x hx => (g11.2 x hx).1, g1, g2, by omega, by omega⟩
/-- Seven bits a byte, the low ones first; 128 more in each but the last. -/
def pnum : Nat → Nat → List Int
  | 0, n => [(n : Int)]
  | d + 1, n => if 128 ≤ n then (((n % 128 + 128 : Nat)) : Int) :: pnum d (n / 128) else [(n : Int)]
def putNum (a : Int) : List Int := if 0 ≤ a ∧ a ≤ 2147483647 then pnum 4 a.toNat else []
theorem pnum_length (d n : Nat) : (pnum d n).length ≤ d + 1 := by
  induction d generalizing n with
  | zero => simp [pnum]
  | succ d ih =>
    unfold pnum
    split
    · have := ih (n / 128)
      simp
      omega
    · simp
theorem putNum_length (a : Int) : (putNum a).length ≤ 5 := by
  unfold putNum
  split
  · exact pnum_length 4 _
  · simp
theorem impl_putNum_at (d : Nat) : ∀ (n : Nat) (x3 : List Int), n < 128 ^ (d + 1) → n ≤ 2147483647 → x3.length + d ≤ 100 →
    Ev (fun k => impl_PutNum.l0 k (n : Int) x3) (x3 ++ pnum d n) := by
  induction d with
  | zero =>
    intro n x3 hn hm hl
    refine Ev.step (fun _ => rfl) ?_
    simp only [impl_PutNum.l0]
    refine ev_neg (by omega) (ev_pos (by omega) (ev_some ?_))
    rw [Int.emod_eq_of_lt (by omega) (by omega)]
    rfl
  | succ d ih =>
    intro n x3 hn hm hl
    refine Ev.step (fun _ => rfl) ?_
    simp only [impl_PutNum.l0]
    by_cases h : 128 ≤ n
    · refine ev_pos (by omega) (ev_pos (by omega) ?_)
      have e1 : wrap64 (Int.tdiv (n : Int) 128) = ((n / 128 : Nat) : Int) := by
        rw [Int.tdiv_eq_ediv_of_nonneg (by omega), w64 (by omega) (by omega)]
        omega
      have e2 : (wrap64 ((Int.tmod (n : Int) 128) + 128)) % 256 = (((n % 128 + 128 : Nat)) : Int) := by
        rw [Int.tmod_eq_emod_of_nonneg (by omega), w64 (by omega) (by omega)]
        omega
      rw [e1, e2]
      have := ih (n / 128) (x3 ++ [(((n % 128 + 128 : Nat)) : Int)]) (by rw [Nat.pow_succ] at hn; omega) (by omega) (by simp; omega)
      rw [List.append_assoc] at this
      unfold pnum
      rw [if_pos h]
      exact this
    · refine ev_neg (by omega) (ev_pos (by omega) (ev_some ?_))
      rw [Int.emod_eq_of_lt (by omega) (by omega)]
      unfold pnum
      rw [if_neg h]
theorem impl_putNum_ev (a : Int) : Ev (fun k => impl_PutNum.f k a) (putNum a) := by
  unfold impl_PutNum.f impl_within.f putNum
  by_cases h : 0 ≤ a ∧ a ≤ 2147483647
  · rw [if_pos h, if_pos h.1]
    obtain ⟨n, rfl⟩ := Int.eq_ofNat_of_zero_le h.1
    refine ev_bind0 rfl (ev_pos (by simp; omega) ?_)
    exact impl_putNum_at 4 n [] (by omega) (by omega) (by simp)
  · rw [if_neg h]
    by_cases h0 : 0 ≤ a
    · rw [if_pos h0]
      exact ev_bind0 rfl (ev_neg (by simp; omega) (ev_some rfl))
    · rw [if_neg h0]
      exact ev_bind0 rfl (ev_neg (by simp) (ev_some rfl))
theorem spec_putNum_at (d : Nat) : ∀ (n : Nat) (x3 : List Int), n < 128 ^ (d + 1) → n ≤ 2147483647 → x3.length + d ≤ 100 →
    Ev (fun k => spec_PutNum.l0 k (n : Int) x3) (x3 ++ pnum d n) := by
  induction d with
  | zero =>
    intro n x3 hn hm hl
    refine Ev.step (fun _ => rfl) ?_
    simp only [spec_PutNum.l0]
    refine ev_neg (by omega) (ev_pos (by omega) (ev_some ?_))
    rw [Int.emod_eq_of_lt (by omega) (by omega)]
    rfl
  | succ d ih =>
    intro n x3 hn hm hl
    refine Ev.step (fun _ => rfl) ?_
    simp only [spec_PutNum.l0]
    by_cases h : 128 ≤ n
    · refine ev_pos (by omega) (ev_pos (by omega) ?_)
      have e1 : wrap64 (Int.tdiv (n : Int) 128) = ((n / 128 : Nat) : Int) := by
        rw [Int.tdiv_eq_ediv_of_nonneg (by omega), w64 (by omega) (by omega)]
        omega
      have e2 : (wrap64 ((Int.tmod (n : Int) 128) + 128)) % 256 = (((n % 128 + 128 : Nat)) : Int) := by
        rw [Int.tmod_eq_emod_of_nonneg (by omega), w64 (by omega) (by omega)]
        omega
      rw [e1, e2]
      have := ih (n / 128) (x3 ++ [(((n % 128 + 128 : Nat)) : Int)]) (by rw [Nat.pow_succ] at hn; omega) (by omega) (by simp; omega)
      rw [List.append_assoc] at this
      unfold pnum
      rw [if_pos h]
      exact this
    · refine ev_neg (by omega) (ev_pos (by omega) (ev_some ?_))
      rw [Int.emod_eq_of_lt (by omega) (by omega)]
      unfold pnum
      rw [if_neg h]
theorem spec_putNum_ev (a : Int) : Ev (fun k => spec_PutNum.f k a) (putNum a) := by
  unfold spec_PutNum.f spec_l1In.f putNum
  by_cases h : 0 ≤ a ∧ a ≤ 2147483647
  · rw [if_pos h, if_pos h.1]
    obtain ⟨n, rfl⟩ := Int.eq_ofNat_of_zero_le h.1
    refine ev_bind0 rfl (ev_bind0 rfl (ev_pos (by simp; omega) ?_))
    exact spec_putNum_at 4 n [] (by omega) (by omega) (by simp)
  · rw [if_neg h]
    by_cases h0 : 0 ≤ a
    · rw [if_pos h0]
      exact ev_bind0 rfl (ev_bind0 rfl (ev_neg (by simp; omega) (ev_some rfl)))
    · rw [if_neg h0]
      exact ev_bind0 rfl (ev_bind0 rfl (ev_neg (by simp) (ev_some rfl)))
/-- Numbers written one behind the other. -/
def putNums (l : List Int) : List Int := l.flatMap putNum
theorem putNums_length (l : List Int) : (putNums l).length ≤ 5 * l.length := by
  induction l with
  | nil => simp [putNums]
  | cons x l ih =>
    have := putNum_length x
    simp only [putNums, List.flatMap_cons, List.length_append, List.length_cons] at ih ⊢
    omega
theorem putNums_take (l : List Int) (i : Nat) (h : i < l.length) : putNums (l.take (i + 1)) = putNums (l.take i) ++ putNum l[i] := by
  rw [List.take_succ_eq_append_getElem h]
  simp only [putNums, List.flatMap_append, List.flatMap_cons, List.flatMap_nil, List.append_nil]
theorem spec_l7Put_at (l : List Int) (hl : l.length ≤ 1048576) (d : Nat) : ∀ i : Nat, i + d = l.length → Ev (fun k => spec_l7Put.l0 k l (putNums (l.take i)) (i : Int)) (putNums l) := by
  induction d with
  | zero =>
    intro i hi
    refine Ev.step (fun _ => rfl) ?_
    simp only [spec_l7Put.l0]
    exact ev_neg (by omega) (ev_some (by rw [List.take_of_length_le (by omega)]))
  | succ d ih =>
    intro i hi
    have hg : i < l.length := by omega
    have h1 := putNums_length (l.take i)
    have h2 := putNum_length l[i]
    rw [List.length_take] at h1
    refine Ev.step (fun _ => rfl) ?_
    simp only [spec_l7Put.l0]
    rw [rd_get hg, wsucc (by omega)]
    refine ev_pos (by omega) (ev_pos (by omega) (Ev.bind (spec_putNum_ev _) (ev_pos (by omega) ?_)))
    rw [← putNums_take l i hg]
    exact ih (i + 1) (by omega)
theorem impl_putNums_at (l : List Int) (hl : l.length ≤ 1048576) (d : Nat) : ∀ i : Nat, i + d = l.length → Ev (fun k => impl_putNums.l0 k (putNums (l.take i)) l (l.length : Int) (i : Int)) (putNums l) := by
  induction d with
  | zero =>
    intro i hi
    refine Ev.step (fun _ => rfl) ?_
    simp only [impl_putNums.l0]
    exact ev_neg (by omega) (ev_some (by rw [List.take_of_length_le (by omega)]))
  | succ d ih =>
    intro i hi
    have hg : i < l.length := by omega
    have h1 := putNums_length (l.take i)
    have h2 := putNum_length l[i]
    rw [List.length_take] at h1
    refine Ev.step (fun _ => rfl) ?_
    simp only [impl_putNums.l0]
    rw [rd_get hg, wsucc (by omega)]
    refine ev_pos (by omega) (ev_pos (by omega) (ev_pos (by omega) (Ev.bind (impl_putNum_ev _) (ev_pos (by omega) ?_))))
    rw [← putNums_take l i hg]
    exact ih (i + 1) (by omega)
theorem l7Nums_ev (c s mn mx : Int) (h r A B : List Int) (hh : h.length ≤ 8) (hr : r.length ≤ 8) (hA : A.length ≤ 8) (hB : B.length ≤ 8) :
    Ev (fun k => spec_l7Nums.f k c s mn mx h r [A, B]) ((([c, s, mn, mx] ++ h) ++ r) ++ A ++ B) := by
  unfold spec_l7Nums.f
  refine ev_bind0 rfl (ev_pos (by simp only [List.length_cons, List.length_nil]; omega) (ev_bind0 rfl (ev_pos (by simp only [List.length_append, List.length_cons, List.length_nil]; omega) ?_)))
  have e0 : rd_L2 [A, B] 0 = A := rfl
  have w1 : wrap64 (0 + 1) = 1 := by unfold wrap64; omega
  have w2 : wrap64 (1 + 1) = 2 := by unfold wrap64; omega
  have e1 : rd_L2 [A, B] (wrap64 (0 + 1)) = B := by rw [w1]; rfl
  refine Ev.step (fun _ => rfl) ?_
  simp only [spec_l7Nums.l0]
  refine ev_pos (by simp) (ev_pos (by simp) (ev_pos (by rw [e0]; simp only [List.length_append, List.length_cons, List.length_nil]; omega) ?_))
  refine Ev.step (fun _ => rfl) ?_
  simp only [spec_l7Nums.l0]
  refine ev_pos (by rw [w1]; simp) (ev_pos (by rw [w1]; omega) (ev_pos (by rw [e0, e1]; simp only [List.length_append, List.length_cons, List.length_nil]; omega) ?_))
  refine Ev.step (fun _ => rfl) ?_
  simp only [spec_l7Nums.l0]
  exact ev_neg (by rw [w1, w2]; simp) (ev_some (by rw [e0, e1]))
/-- What a sketch's bytes are. -/
noncomputable def skBytes (c s mn mx : Int) (h r : List Int) (R : List (List Int)) : List Int :=
  if skOk c s mn mx h r R = true then putNums ((([c, s, mn, mx] ++ h) ++ r) ++ rd_L2 R 0 ++ rd_L2 R 1) else []
theorem skBytes_length (c s mn mx : Int) (h r : List Int) (R : List (List Int)) : (skBytes c s mn mx h r R).length ≤ 1000 := by
  unfold skBytes
  by_cases e : skOk c s mn mx h r R = true
  · rw [if_pos e]
    obtain ⟨_, _, _, _, _, _, _, ⟨a1, _⟩, ⟨a2, _⟩, ⟨a3, _⟩, ⟨a4, _⟩⟩ := skOk_true.1 e
    refine Nat.le_trans (putNums_length _) ?_
    simp only [List.length_append, List.length_cons, List.length_nil]
    omega
  · rw [if_neg e]
    simp
theorem two_rows {R : List (List Int)} (h : R.length = 2) : R = [rd_L2 R 0, rd_L2 R 1] := by
  match R, h with
  | [A, B], _ => rfl
theorem spec_sketchBytes_ev (c s mn mx : Int) (h r : List Int) (R : List (List Int)) : Ev (fun k => spec_SketchBytes.f k c s mn mx h r R) (skBytes c s mn mx h r R) := by
  unfold spec_SketchBytes.f skBytes
  refine Ev.bind (spec_sketchOk_ev c s mn mx h r R) ?_
  by_cases e : skOk c s mn mx h r R = true
  · rw [if_pos e]
    obtain ⟨_, _, _, _, _, hR, _, ⟨a1, _⟩, ⟨a2, _⟩, ⟨a3, _⟩, ⟨a4, _⟩⟩ := skOk_true.1 e
    refine ev_pos e ?_
    have e2 := l7Nums_ev c s mn mx h r (rd_L2 R 0) (rd_L2 R 1) (by omega) (by omega) (by omega) (by omega)
    rw [← two_rows hR] at e2
    refine Ev.bind e2 (Ev.bind ?_ (ev_some rfl))
    unfold spec_l7Put.f
    have hL : ((([c, s, mn, mx] ++ h) ++ r) ++ rd_L2 R 0 ++ rd_L2 R 1).length ≤ 1048576 := by simp only [List.length_append, List.length_cons, List.length_nil]; omega
    generalize (([c, s, mn, mx] ++ h) ++ r) ++ rd_L2 R 0 ++ rd_L2 R 1 = L at hL
    exact spec_l7Put_at L hL L.length 0 (by omega)
  · rw [if_neg e]
    exact ev_neg e (ev_some rfl)
theorem impl_sketchBytes_ev (c s mn mx : Int) (h r : List Int) (R : List (List Int)) : Ev (fun k => impl_SketchBytes.f k c s mn mx h r R) (skBytes c s mn mx h r R) := by
  unfold impl_SketchBytes.f skBytes
  refine Ev.bind (impl_sketchOk_ev c s mn mx h r R) ?_
  by_cases e : skOk c s mn mx h r R = true
  · rw [if_pos e]
    obtain ⟨_, _, _, _, _, hR, _, ⟨a1, _⟩, ⟨a2, _⟩, ⟨a3, _⟩, ⟨a4, _⟩⟩ := skOk_true.1 e
    refine ev_pos e (ev_bind0 rfl ?_)
    have e2 := counts_ev c s mn mx h r (rd_L2 R 0) (rd_L2 R 1) (by omega) (by omega) (by omega) (by omega)
    rw [← two_rows hR] at e2
    refine Ev.bind e2 (ev_pos (by simp only [List.length_append, List.length_cons, List.length_nil]; omega) (Ev.bind (a := putNums ((([c, s, mn, mx] ++ h) ++ r) ++ rd_L2 R 0 ++ rd_L2 R 1)) ?_ (ev_some rfl)))
    unfold impl_putNums.f
    have hL : (([c, s, mn, mx] : List Int) ++ (((h ++ r) ++ rd_L2 R 0) ++ rd_L2 R 1)).length ≤ 1048576 := by simp only [List.length_append, List.length_cons, List.length_nil]; omega
    have eL : (([c, s, mn, mx] ++ h) ++ r) ++ rd_L2 R 0 ++ rd_L2 R 1 = ([c, s, mn, mx] : List Int) ++ (((h ++ r) ++ rd_L2 R 0) ++ rd_L2 R 1) := by simp only [List.append_assoc]
    rw [eL]
    generalize ([c, s, mn, mx] : List Int) ++ (((h ++ r) ++ rd_L2 R 0) ++ rd_L2 R 1) = L at hL
    exact impl_putNums_at L hL L.length 0 (by omega)
  · rw [if_neg e]
    exact ev_neg e (ev_some rfl)
set_option maxHeartbeats 8000000 in
theorem law0 (k : Nat) (V M K1 c s mn mx : Int) (x y z : Sl) (h r : List Int) (R : List (List Int)) (l L1 : List Int) (w : World) (u : Rd w x y z h r R)
    (SZ : Aside0 (laws_szSketch.f k c s mn mx h r R 1048576 = some V)) (hV : decide (V < 0) = false) (TO : Aside0 (laws_toSketch.f k c s mn mx h r R = some (c, s, mn, mx, h, r, R)))
    (SB : Aside0 (spec_SketchBytes.f k c s mn mx h r R = some l)) (IB : Aside0 (impl_SketchBytes.f k c s mn mx h r R = some l)) (EB : Aside0 (laws_eqByteS.f k l l = some true)) (EQ : Aside0 (laws_eqSketch.f k c s mn mx h r R c s mn mx h r R = some true))
    (MK : Aside0 (MkI k)) (LM : Aside0 ((1 : Int) + (h.length : Int) + (r.length : Int) + (lensII R : Nat) = M ∧ M ≤ 1073741824 ∧ h.length ≤ 1048576 ∧ r.length ≤ 1048576 ∧ R.length ≤ 1048576 ∧ ∀ l ∈ R, l.length ≤ 1048576)) (hM : decide (M < 0) = false)
    (MB : Aside0 (laws_markByteS.f k l 1 = some (K1, L1))) (HE : Aside0 (laws_heldByteS.f k L1 1 = some K1)) (hK : decide (K1 < 0) = false) :
    Calls Try.prog 8 #[.agg #[.int .i64 c, .int .i64 s, .int .i64 mn, .int .i64 mx, .slice x.A x.n x.c, .slice y.A y.n y.c, .slice z.A z.n z.c]] w fun e w' => e = .returned (.bool true) ∧ Below w.heap.size w w' := by
  have U0 := Aside0.mk u
  clear u
  go_enter Try.func8, Try.ntmps8
  have HB_1 := Aside0.mk ((below_alloc (Below.refl _ w) (.cells #[.int .i64 c, .int .i64 s, .int .i64 mn, .int .i64 mx, .slice x.A x.n x.c, .slice y.A y.n y.c, .slice z.A z.n z.c] 42)))
  have Z_2 := Aside0.mk (show (w.alloc (.cells #[.int .i64 c, .int .i64 s, .int .i64 mn, .int .i64 mx, .slice x.A x.n x.c, .slice y.A y.n y.c, .slice z.A z.n z.c] 42)).heap.size = w.heap.size + 1 by simp)
  have arg_3 := Aside0.mk (Bx.new w 42 #[.int .i64 c, .int .i64 s, .int .i64 mn, .int .i64 mx, .slice x.A x.n x.c, .slice y.A y.n y.c, .slice z.A z.n z.c])
  go_wp2_with fail
  refine (sz_callD k c s mn mx 1048576 V (U0.out.below HB_1.out) SZ.out).mono ?_
  rintro e w1 ⟨rfl, hb⟩
  have arg_4 := Aside0.mk (arg_3.out.below hb)
  have HB_5 := Aside0.mk (below_step HB_1.out hb)
  have Z_6 := Aside0.mk (hb.size)
  clear arg_3 HB_1 hb
  obtain ⟨arg6c0, arg6c1, arg6c2, arg6c3, arg6c4, arg6c5, arg6c6⟩ := arg_4.out.cells
  go_wp2_with fail
  clear arg6c0 arg6c1 arg6c2 arg6c3 arg6c4 arg6c5 arg6c6
  refine (to_callD k c s mn mx (U0.out.below HB_5.out) TO.out).mono ?_
  rintro e w2 ⟨x1, y1, z1, a1, b1, rfl, hs, hm, hb⟩
  have S1_8 := Aside0.mk hs
  clear hs
  have Z_9 := Aside0.mk hm
  clear hm
  unfold Made at Z_9
  have arg_10 := Aside0.mk (arg_4.out.below hb)
  have HB_11 := Aside0.mk (below_step HB_5.out hb)
  have Z_12 := Aside0.mk (hb.size)
  clear arg_4 HB_5 hb
  go_wp2_with fail
  refine (specB_callD k c s mn mx S1_8.out.rd SB.out).mono ?_
  rintro e w3 ⟨v0, a2, b2, rfl, hs, hm, hb⟩
  have w0_13 := Aside0.mk hs
  clear hs
  have Z_14 := Aside0.mk hm
  clear hm
  unfold Made at Z_14
  have arg_15 := Aside0.mk (arg_10.out.below hb)
  have S1_16 := Aside0.mk (S1_8.out.below hb)
  have HB_17 := Aside0.mk (below_step HB_11.out hb)
  have Z_18 := Aside0.mk (hb.size)
  clear arg_10 S1_8 HB_11 hb
  clear S1_16
  obtain ⟨arg18c0, arg18c1, arg18c2, arg18c3, arg18c4, arg18c5, arg18c6⟩ := arg_15.out.cells
  go_wp2_with fail
  clear arg18c0 arg18c1 arg18c2 arg18c3 arg18c4 arg18c5 arg18c6
  refine (to_callD k c s mn mx (U0.out.below HB_17.out) TO.out).mono ?_
  rintro e w4 ⟨x3, y3, z3, a3, b3, rfl, hs, hm, hb⟩
  have S3_20 := Aside0.mk hs
  clear hs
  have Z_21 := Aside0.mk hm
  clear hm
  unfold Made at Z_21
  have arg_22 := Aside0.mk (arg_15.out.below hb)
  have w0_23 := Aside0.mk (w0_13.out.below hb)
  have HB_24 := Aside0.mk (below_step HB_17.out hb)
  have Z_25 := Aside0.mk (hb.size)
  clear arg_15 w0_13 HB_17 hb
  have arg_26 := Aside0.mk (arg_22.out.below (below_alloc (Below.refl _ w4) (.cells #[.int .i64 c, .int .i64 s, .int .i64 mn, .int .i64 mx, .slice x3.A x3.n x3.c, .slice y3.A y3.n y3.c, .slice z3.A z3.n z3.c] 37)))
  have w0_27 := Aside0.mk (w0_23.out.below (below_alloc (Below.refl _ w4) (.cells #[.int .i64 c, .int .i64 s, .int .i64 mn, .int .i64 mx, .slice x3.A x3.n x3.c, .slice y3.A y3.n y3.c, .slice z3.A z3.n z3.c] 37)))
  have S3_28 := Aside0.mk (S3_20.out.below (below_alloc (Below.refl _ w4) (.cells #[.int .i64 c, .int .i64 s, .int .i64 mn, .int .i64 mx, .slice x3.A x3.n x3.c, .slice y3.A y3.n y3.c, .slice z3.A z3.n z3.c] 37)))
  have HB_29 := Aside0.mk (below_step HB_24.out (below_alloc (Below.refl _ w4) (.cells #[.int .i64 c, .int .i64 s, .int .i64 mn, .int .i64 mx, .slice x3.A x3.n x3.c, .slice y3.A y3.n y3.c, .slice z3.A z3.n z3.c] 37)))
  have Z_30 := Aside0.mk (show (w4.alloc (.cells #[.int .i64 c, .int .i64 s, .int .i64 mn, .int .i64 mx, .slice x3.A x3.n x3.c, .slice y3.A y3.n y3.c, .slice z3.A z3.n z3.c] 37)).heap.size = w4.heap.size + 1 by simp)
  have x0_31 := Aside0.mk (Bx.new w4 37 #[.int .i64 c, .int .i64 s, .int .i64 mn, .int .i64 mx, .slice x3.A x3.n x3.c, .slice y3.A y3.n y3.c, .slice z3.A z3.n z3.c])
  clear arg_22 w0_23 S3_20 HB_24
  go_wp2_with fail
  refine (implB_callD k c s mn mx S3_28.out.rd IB.out).mono ?_
  rintro e w5 ⟨v4, a4, b4, rfl, hs, hm, hb⟩
  have g0_32 := Aside0.mk hs
  clear hs
  have Z_33 := Aside0.mk hm
  clear hm
  unfold Made at Z_33
  have arg_34 := Aside0.mk (arg_26.out.below hb)
  have w0_35 := Aside0.mk (w0_27.out.below hb)
  have S3_36 := Aside0.mk (S3_28.out.below hb)
  have x0_37 := Aside0.mk (x0_31.out.below hb)
  have HB_38 := Aside0.mk (below_step HB_29.out hb)
  have Z_39 := Aside0.mk (hb.size)
  clear arg_26 w0_27 S3_28 x0_31 HB_29 hb
  go_wp2_with fail
  refine (eqB_callD k g0_32.out.rd w0_35.out.rd EB.out).mono ?_
  rintro e w6 ⟨rfl, hb⟩
  have arg_40 := Aside0.mk (arg_34.out.below hb)
  have w0_41 := Aside0.mk (w0_35.out.below hb)
  have S3_42 := Aside0.mk (S3_36.out.below hb)
  have x0_43 := Aside0.mk (x0_37.out.below hb)
  have g0_44 := Aside0.mk (g0_32.out.below hb)
  have HB_45 := Aside0.mk (below_step HB_38.out hb)
  have Z_46 := Aside0.mk (hb.size)
  clear arg_34 w0_35 S3_36 x0_37 g0_32 HB_38 hb
  obtain ⟨x046c0, x046c1, x046c2, x046c3, x046c4, x046c5, x046c6⟩ := x0_43.out.cells
  obtain ⟨arg47c0, arg47c1, arg47c2, arg47c3, arg47c4, arg47c5, arg47c6⟩ := arg_40.out.cells
  go_wp2_with fail
  have arg_49 := Aside0.mk (arg_40.out.below (below_drew (Below.refl _ w6)))
  have w0_50 := Aside0.mk (w0_41.out.below (below_drew (Below.refl _ w6)))
  have S3_51 := Aside0.mk (S3_42.out.below (below_drew (Below.refl _ w6)))
  have x0_52 := Aside0.mk (x0_43.out.below (below_drew (Below.refl _ w6)))
  have g0_53 := Aside0.mk (g0_44.out.below (below_drew (Below.refl _ w6)))
  have HB_54 := Aside0.mk (below_step HB_45.out (below_drew (Below.refl _ w6)))
  have Z_55 := Aside0.mk (show w6.drew.heap.size = w6.heap.size by simp)
  clear arg_40 w0_41 S3_42 x0_43 g0_44 HB_45
  go_region_held3 (fun w' => w'.cell? ⟨w4.heap.size, 0, none⟩ = some (.int .i64 c) ∧ w'.cell? ⟨w4.heap.size, 1, none⟩ = some (.int .i64 s) ∧ w'.cell? ⟨w4.heap.size, 2, none⟩ = some (.int .i64 mn) ∧ w'.cell? ⟨w4.heap.size, 3, none⟩ = some (.int .i64 mx) ∧ w'.cell? ⟨w4.heap.size, 4, none⟩ = some (.slice x3.A x3.n x3.c) ∧ w'.cell? ⟨w4.heap.size, 5, none⟩ = some (.slice y3.A y3.n y3.c) ∧ w'.cell? ⟨w4.heap.size, 6, none⟩ = some (.slice z3.A z3.n z3.c) ∧ w'.cell? ⟨w.heap.size, 0, none⟩ = some (.int .i64 c) ∧ w'.cell? ⟨w.heap.size, 1, none⟩ = some (.int .i64 s) ∧ w'.cell? ⟨w.heap.size, 2, none⟩ = some (.int .i64 mn) ∧ w'.cell? ⟨w.heap.size, 3, none⟩ = some (.int .i64 mx) ∧ w'.cell? ⟨w.heap.size, 4, none⟩ = some (.slice x.A x.n x.c) ∧ w'.cell? ⟨w.heap.size, 5, none⟩ = some (.slice y.A y.n y.c) ∧ w'.cell? ⟨w.heap.size, 6, none⟩ = some (.slice z.A z.n z.c)) (first | go_keep | exact ⟨x064c0, x064c1, x064c2, x064c3, x064c4, x064c5, x064c6, arg65c0, arg65c1, arg65c2, arg65c3, arg65c4, arg65c5, arg65c6⟩ | exact ⟨x074c0, x074c1, x074c2, x074c3, x074c4, x074c5, x074c6, arg75c0, arg75c1, arg75c2, arg75c3, arg75c4, arg75c5, arg75c6⟩) (first | (go_at_call 32; refine (to_callD k c s mn mx (U0.out.below HB_54.out) TO.out).mono ?_; rintro e w7 ⟨x5, y5, z5, a5, b5, rfl, hs, hm, hb⟩; have S5_56 := Aside0.mk hs; clear hs; have Z_57 := Aside0.mk hm; clear hm; unfold Made at Z_57; have arg_58 := Aside0.mk (arg_49.out.below hb); have w0_59 := Aside0.mk (w0_50.out.below hb); have S3_60 := Aside0.mk (S3_51.out.below hb); have x0_61 := Aside0.mk (x0_52.out.below hb); have g0_62 := Aside0.mk (g0_53.out.below hb); have HB_63 := Aside0.mk (below_step HB_54.out hb); have Z_64 := Aside0.mk (hb.size); clear arg_49 w0_50 S3_51 x0_52 g0_53 HB_54 hb; obtain ⟨x064c0, x064c1, x064c2, x064c3, x064c4, x064c5, x064c6⟩ := x0_61.out.cells; obtain ⟨arg65c0, arg65c1, arg65c2, arg65c3, arg65c4, arg65c5, arg65c6⟩ := arg_58.out.cells) | (go_at_call 27; refine (eq_callD k c s mn mx S3_60.out.rd S5_56.out.rd EQ.out).mono ?_; rintro e w8 ⟨rfl, hb⟩; have arg_67 := Aside0.mk (arg_58.out.below hb); have w0_68 := Aside0.mk (w0_59.out.below hb); have S3_69 := Aside0.mk (S3_60.out.below hb); have x0_70 := Aside0.mk (x0_61.out.below hb); have g0_71 := Aside0.mk (g0_62.out.below hb); have S5_72 := Aside0.mk (S5_56.out.below hb); have HB_73 := Aside0.mk (below_step HB_63.out hb); have Z_74 := Aside0.mk (hb.size); clear arg_58 w0_59 S3_60 x0_61 g0_62 S5_56 HB_63 hb; obtain ⟨x074c0, x074c1, x074c2, x074c3, x074c4, x074c5, x074c6⟩ := x0_70.out.cells; obtain ⟨arg75c0, arg75c1, arg75c2, arg75c3, arg75c4, arg75c5, arg75c6⟩ := arg_67.out.cells))
  try clear x074c0 x074c1 x074c2 x074c3 x074c4 x074c5 x074c6 arg75c0 arg75c1 arg75c2 arg75c3 arg75c4 arg75c5 arg75c6
  clear S5_72
  obtain ⟨x076c0, x076c1, x076c2, x076c3, x076c4, x076c5, x076c6⟩ := x0_70.out.cells
  go_wp2_with fail
  clear x076c0 x076c1 x076c2 x076c3 x076c4 x076c5 x076c6
  refine (mark_callM k MK c s mn mx 1 M S3_69.out (by have := Z_2.out; have := Z_6.out; have := Z_9.out; have := Z_12.out; have := Z_14.out; have := Z_18.out; have := Z_21.out; have := Z_25.out; have := Z_30.out; have := Z_33.out; have := Z_39.out; have := Z_46.out; have := Z_55.out; have := Z_57.out; have := Z_64.out; have := Z_74.out; omega) (by have := Z_2.out; have := Z_6.out; have := Z_9.out; have := Z_12.out; have := Z_14.out; have := Z_18.out; have := Z_21.out; have := Z_25.out; have := Z_30.out; have := Z_33.out; have := Z_39.out; have := Z_46.out; have := Z_55.out; have := Z_57.out; have := Z_64.out; have := Z_74.out; omega) (by omega) LM).mono ?_
  rintro e w9 ⟨rfl, hs, hk⟩
  have S3_78 := Aside0.mk hs
  clear hs
  clear S3_69
  have arg_79 := Aside0.mk (arg_67.out.kp hk (by have := Z_2.out; have := Z_6.out; have := Z_9.out; have := Z_12.out; have := Z_14.out; have := Z_18.out; have := Z_21.out; have := Z_25.out; have := Z_30.out; have := Z_33.out; have := Z_39.out; have := Z_46.out; have := Z_55.out; have := Z_57.out; have := Z_64.out; have := Z_74.out; omega))
  have w0_80 := Aside0.mk (w0_68.out.kp hk (by have := Z_2.out; have := Z_6.out; have := Z_9.out; have := Z_12.out; have := Z_14.out; have := Z_18.out; have := Z_21.out; have := Z_25.out; have := Z_30.out; have := Z_33.out; have := Z_39.out; have := Z_46.out; have := Z_55.out; have := Z_57.out; have := Z_64.out; have := Z_74.out; omega))
  have x0_81 := Aside0.mk (x0_70.out.kp hk (by have := Z_2.out; have := Z_6.out; have := Z_9.out; have := Z_12.out; have := Z_14.out; have := Z_18.out; have := Z_21.out; have := Z_25.out; have := Z_30.out; have := Z_33.out; have := Z_39.out; have := Z_46.out; have := Z_55.out; have := Z_57.out; have := Z_64.out; have := Z_74.out; omega))
  have g0_82 := Aside0.mk (g0_71.out.kp hk (by have := Z_2.out; have := Z_6.out; have := Z_9.out; have := Z_12.out; have := Z_14.out; have := Z_18.out; have := Z_21.out; have := Z_25.out; have := Z_30.out; have := Z_33.out; have := Z_39.out; have := Z_46.out; have := Z_55.out; have := Z_57.out; have := Z_64.out; have := Z_74.out; omega))
  have HB_83 := Aside0.mk (below_kp HB_73.out hk (by have := Z_2.out; have := Z_6.out; have := Z_9.out; have := Z_12.out; have := Z_14.out; have := Z_18.out; have := Z_21.out; have := Z_25.out; have := Z_30.out; have := Z_33.out; have := Z_39.out; have := Z_46.out; have := Z_55.out; have := Z_57.out; have := Z_64.out; have := Z_74.out; omega) HB_73.out.size)
  have Z_84 := Aside0.mk (hk.kept.1)
  clear arg_67 w0_68 x0_70 g0_71 HB_73 hk
  go_wp2_with fail
  refine (eqB_callD k g0_82.out.rd w0_80.out.rd EB.out).mono ?_
  rintro e w10 ⟨rfl, hb⟩
  have arg_85 := Aside0.mk (arg_79.out.below hb)
  have w0_86 := Aside0.mk (w0_80.out.below hb)
  have x0_87 := Aside0.mk (x0_81.out.below hb)
  have g0_88 := Aside0.mk (g0_82.out.below hb)
  have S3_89 := Aside0.mk (S3_78.out.below hb)
  have HB_90 := Aside0.mk (below_step HB_83.out hb)
  have Z_91 := Aside0.mk (hb.size)
  clear arg_79 w0_80 x0_81 g0_82 S3_78 HB_83 hb
  go_wp2_with fail
  refine (markB_call k 1 K1 L1 g0_88.out (by have := Z_2.out; have := Z_6.out; have := Z_9.out; have := Z_12.out; have := Z_14.out; have := Z_18.out; have := Z_21.out; have := Z_25.out; have := Z_30.out; have := Z_33.out; have := Z_39.out; have := Z_46.out; have := Z_55.out; have := Z_57.out; have := Z_64.out; have := Z_74.out; have := Z_84.out; have := Z_91.out; omega) MB.out).mono ?_
  rintro e w11 ⟨rfl, hs, hk⟩
  have g0_92 := Aside0.mk hs
  clear hs
  clear g0_88
  have arg_93 := Aside0.mk (arg_85.out.kp hk (by have := Z_2.out; have := Z_6.out; have := Z_9.out; have := Z_12.out; have := Z_14.out; have := Z_18.out; have := Z_21.out; have := Z_25.out; have := Z_30.out; have := Z_33.out; have := Z_39.out; have := Z_46.out; have := Z_55.out; have := Z_57.out; have := Z_64.out; have := Z_74.out; have := Z_84.out; have := Z_91.out; omega))
  have w0_94 := Aside0.mk (w0_86.out.kp hk (by have := Z_2.out; have := Z_6.out; have := Z_9.out; have := Z_12.out; have := Z_14.out; have := Z_18.out; have := Z_21.out; have := Z_25.out; have := Z_30.out; have := Z_33.out; have := Z_39.out; have := Z_46.out; have := Z_55.out; have := Z_57.out; have := Z_64.out; have := Z_74.out; have := Z_84.out; have := Z_91.out; omega))
  have x0_95 := Aside0.mk (x0_87.out.kp hk (by have := Z_2.out; have := Z_6.out; have := Z_9.out; have := Z_12.out; have := Z_14.out; have := Z_18.out; have := Z_21.out; have := Z_25.out; have := Z_30.out; have := Z_33.out; have := Z_39.out; have := Z_46.out; have := Z_55.out; have := Z_57.out; have := Z_64.out; have := Z_74.out; have := Z_84.out; have := Z_91.out; omega))
  have S3_96 := Aside0.mk (S3_89.out.kp hk (by have := Z_2.out; have := Z_6.out; have := Z_9.out; have := Z_12.out; have := Z_14.out; have := Z_18.out; have := Z_21.out; have := Z_25.out; have := Z_30.out; have := Z_33.out; have := Z_39.out; have := Z_46.out; have := Z_55.out; have := Z_57.out; have := Z_64.out; have := Z_74.out; have := Z_84.out; have := Z_91.out; omega))
  have HB_97 := Aside0.mk (below_kp HB_90.out hk (by have := Z_2.out; have := Z_6.out; have := Z_9.out; have := Z_12.out; have := Z_14.out; have := Z_18.out; have := Z_21.out; have := Z_25.out; have := Z_30.out; have := Z_33.out; have := Z_39.out; have := Z_46.out; have := Z_55.out; have := Z_57.out; have := Z_64.out; have := Z_74.out; have := Z_84.out; have := Z_91.out; omega) HB_90.out.size)
  have Z_98 := Aside0.mk (hk.kept.1)
  clear arg_85 w0_86 x0_87 S3_89 HB_90 hk
  go_wp2_with fail
  refine (heldB_callD k 1 K1 g0_92.out.rd HE.out).mono ?_
  rintro e w12 ⟨rfl, hb⟩
  have arg_99 := Aside0.mk (arg_93.out.below hb)
  have w0_100 := Aside0.mk (w0_94.out.below hb)
  have x0_101 := Aside0.mk (x0_95.out.below hb)
  have S3_102 := Aside0.mk (S3_96.out.below hb)
  have g0_103 := Aside0.mk (g0_92.out.below hb)
  have HB_104 := Aside0.mk (below_step HB_97.out hb)
  have Z_105 := Aside0.mk (hb.size)
  clear arg_93 w0_94 x0_95 S3_96 g0_92 HB_97 hb
  obtain ⟨arg105c0, arg105c1, arg105c2, arg105c3, arg105c4, arg105c5, arg105c6⟩ := arg_99.out.cells
  go_wp2_with fail
  clear arg105c0 arg105c1 arg105c2 arg105c3 arg105c4 arg105c5 arg105c6
  refine (to_callD k c s mn mx (U0.out.below HB_104.out) TO.out).mono ?_
  rintro e w13 ⟨x6, y6, z6, a6, b6, rfl, hs, hm, hb⟩
  have S6_107 := Aside0.mk hs
  clear hs
  have Z_108 := Aside0.mk hm
  clear hm
  unfold Made at Z_108
  have arg_109 := Aside0.mk (arg_99.out.below hb)
  have w0_110 := Aside0.mk (w0_100.out.below hb)
  have x0_111 := Aside0.mk (x0_101.out.below hb)
  have S3_112 := Aside0.mk (S3_102.out.below hb)
  have g0_113 := Aside0.mk (g0_103.out.below hb)
  have HB_114 := Aside0.mk (below_step HB_104.out hb)
  have Z_115 := Aside0.mk (hb.size)
  clear arg_99 w0_100 x0_101 S3_102 g0_103 HB_104 hb
  go_wp2_with fail
  refine (implB_callD k c s mn mx S6_107.out.rd IB.out).mono ?_
  rintro e w14 ⟨v7, a7, b7, rfl, hs, hm, hb⟩
  have h0_116 := Aside0.mk hs
  clear hs
  have Z_117 := Aside0.mk hm
  clear hm
  unfold Made at Z_117
  have arg_118 := Aside0.mk (arg_109.out.below hb)
  have w0_119 := Aside0.mk (w0_110.out.below hb)
  have x0_120 := Aside0.mk (x0_111.out.below hb)
  have S3_121 := Aside0.mk (S3_112.out.below hb)
  have g0_122 := Aside0.mk (g0_113.out.below hb)
  have S6_123 := Aside0.mk (S6_107.out.below hb)
  have HB_124 := Aside0.mk (below_step HB_114.out hb)
  have Z_125 := Aside0.mk (hb.size)
  clear arg_109 w0_110 x0_111 S3_112 g0_113 S6_107 HB_114 hb
  clear S6_123
  go_wp2_with fail
  refine (eqB_callD k h0_116.out.rd w0_119.out.rd EB.out).mono ?_
  rintro e w15 ⟨rfl, hb⟩
  have arg_126 := Aside0.mk (arg_118.out.below hb)
  have w0_127 := Aside0.mk (w0_119.out.below hb)
  have x0_128 := Aside0.mk (x0_120.out.below hb)
  have S3_129 := Aside0.mk (S3_121.out.below hb)
  have g0_130 := Aside0.mk (g0_122.out.below hb)
  have h0_131 := Aside0.mk (h0_116.out.below hb)
  have HB_132 := Aside0.mk (below_step HB_124.out hb)
  have Z_133 := Aside0.mk (hb.size)
  clear arg_118 w0_119 x0_120 S3_121 g0_122 h0_116 HB_124 hb
  go_wp2_with fail
  refine (heldB_callD k 1 K1 g0_130.out.rd HE.out).mono ?_
  rintro e w16 ⟨rfl, hb⟩
  have arg_134 := Aside0.mk (arg_126.out.below hb)
  have w0_135 := Aside0.mk (w0_127.out.below hb)
  have x0_136 := Aside0.mk (x0_128.out.below hb)
  have S3_137 := Aside0.mk (S3_129.out.below hb)
  have g0_138 := Aside0.mk (g0_130.out.below hb)
  have h0_139 := Aside0.mk (h0_131.out.below hb)
  have HB_140 := Aside0.mk (below_step HB_132.out hb)
  have Z_141 := Aside0.mk (hb.size)
  clear arg_126 w0_127 x0_128 S3_129 g0_130 h0_131 HB_132 hb
  go_wp2
  go_ret
  exact ⟨rfl, HB_140.out⟩

set_option maxHeartbeats 8000000 in
theorem law1 (k : Nat) (V c s mn mx : Int) (x y z : Sl) (h r : List Int) (R : List (List Int)) (w : World) (u : Rd w x y z h r R)
    (SZ : Aside0 (laws_szSketch.f k c s mn mx h r R 1048576 = some V)) (hV : decide (V < 0) = true) :
    Calls Try.prog 8 #[.agg #[.int .i64 c, .int .i64 s, .int .i64 mn, .int .i64 mx, .slice x.A x.n x.c, .slice y.A y.n y.c, .slice z.A z.n z.c]] w fun e w' => e = .returned (.bool true) ∧ Below w.heap.size w w' := by
  have U0 := Aside0.mk u
  clear u
  go_enter Try.func8, Try.ntmps8
  have HB_1 := Aside0.mk ((below_alloc (Below.refl _ w) (.cells #[.int .i64 c, .int .i64 s, .int .i64 mn, .int .i64 mx, .slice x.A x.n x.c, .slice y.A y.n y.c, .slice z.A z.n z.c] 42)))
  have Z_2 := Aside0.mk (show (w.alloc (.cells #[.int .i64 c, .int .i64 s, .int .i64 mn, .int .i64 mx, .slice x.A x.n x.c, .slice y.A y.n y.c, .slice z.A z.n z.c] 42)).heap.size = w.heap.size + 1 by simp)
  have arg_3 := Aside0.mk (Bx.new w 42 #[.int .i64 c, .int .i64 s, .int .i64 mn, .int .i64 mx, .slice x.A x.n x.c, .slice y.A y.n y.c, .slice z.A z.n z.c])
  go_wp2_with fail
  refine (sz_callD k c s mn mx 1048576 V (U0.out.below HB_1.out) SZ.out).mono ?_
  rintro e w1 ⟨rfl, hb⟩
  have arg_4 := Aside0.mk (arg_3.out.below hb)
  have HB_5 := Aside0.mk (below_step HB_1.out hb)
  have Z_6 := Aside0.mk (hb.size)
  clear arg_3 HB_1 hb
  go_wp2
  go_ret
  exact ⟨rfl, HB_5.out⟩

set_option maxRecDepth 100000 in
theorem law (c s mn mx : Int) (A4 : Option Addr) (c4 : Nat) (h : List Int) (A5 : Option Addr) (c5 : Nat) (r : List Int) (A6 : Option Addr) (c6 : Nat) (R : List (List Int)) (w : World) (C4 : (Kd.int .i64).C w A4 h.length h) (l4 : h.length ≤ c4) (C5 : (Kd.int .i64).C w A5 r.length r) (l5 : r.length ≤ c5) (C6 : (Kd.slice 3 (Kd.int .i64)).C w A6 R.length R) (l6 : R.length ≤ c6)
    (_ : -9223372036854775808 ≤ c ∧ c ≤ 9223372036854775807) (_ : -9223372036854775808 ≤ s ∧ s ≤ 9223372036854775807) (_ : -9223372036854775808 ≤ mn ∧ mn ≤ 9223372036854775807) (_ : -9223372036854775808 ≤ mx ∧ mx ≤ 9223372036854775807)
    (hh : h.length ≤ 9223372036854775807 ∧ ∀ x ∈ h, (-9223372036854775808 ≤ x ∧ x ≤ 9223372036854775807)) (hr : r.length ≤ 9223372036854775807 ∧ ∀ x ∈ r, (-9223372036854775808 ≤ x ∧ x ≤ 9223372036854775807)) (hR : R.length ≤ 9223372036854775807 ∧ ∀ l ∈ R, (l.length ≤ 9223372036854775807 ∧ ∀ x ∈ l, (-9223372036854775808 ≤ x ∧ x ≤ 9223372036854775807))) :
    Calls Try.prog 8 #[.agg #[.int .i64 c, .int .i64 s, .int .i64 mn, .int .i64 mx, .slice A4 h.length c4, .slice A5 r.length c5, .slice A6 R.length c6]] w fun e w' => e = .returned (.bool true) ∧ Below w.heap.size w w' := by
  have u : Rd w ⟨A4, h.length, c4⟩ ⟨A5, r.length, c5⟩ ⟨A6, R.length, c6⟩ h r R := ⟨rfl, rfl, rfl, l4, l5, l6, C4, C5, C6⟩
  obtain ⟨v, hv, hle, hall⟩ := szSketch_all c s mn mx h r R 1048576 (by omega) (by omega) hh.1 hr.1 hR.1 (fun x hx => (hR.2 x hx).1)
  by_cases hneg : v < 0
  · obtain ⟨K, hK⟩ := hv
    have q1 : laws_szSketch.f K c s mn mx h r R 1048576 = some v := hK K (Nat.le_refl _)
    have q2 : decide (v < 0) = true := decide_eq_true hneg
    have q3 := law1 K v c s mn mx _ _ _ h r R w u ⟨q1⟩ q2
    exact q3
  · obtain ⟨⟨b1, b2, b3, b4⟩, b5⟩ := hall (by omega)
    have hl := skBytes_length c s mn mx h r R
    obtain ⟨K1, h1⟩ := hv
    obtain ⟨K2, h2⟩ := toSketch_ev c s mn mx h r R b1 b2 b3 b4
    obtain ⟨K3, h3⟩ := spec_sketchBytes_ev c s mn mx h r R
    obtain ⟨K4, h4⟩ := impl_sketchBytes_ev c s mn mx h r R
    obtain ⟨K5, h5⟩ := eqByteS_ev (skBytes c s mn mx h r R) (by omega)
    obtain ⟨K6, h6⟩ := eqSketch_ev c s mn mx h r R b1 b2 b3 b4
    obtain ⟨K7, h7⟩ := markByteS_ev (skBytes c s mn mx h r R) 1 (by omega)
    obtain ⟨K8, h8⟩ := heldByteS_ev 1 (skBytes c s mn mx h r R).length (by omega)
    generalize hK : K1 + K2 + K3 + K4 + K5 + K6 + K7 + K8 + 1048577 = k
    have q1 : laws_szSketch.f k c s mn mx h r R 1048576 = some v := h1 k (by omega)
    have q2 : laws_toSketch.f k c s mn mx h r R = some (c, s, mn, mx, h, r, R) := h2 k (by omega)
    have q3 : spec_SketchBytes.f k c s mn mx h r R = some (skBytes c s mn mx h r R) := h3 k (by omega)
    have q4 : impl_SketchBytes.f k c s mn mx h r R = some (skBytes c s mn mx h r R) := h4 k (by omega)
    have q5 : laws_eqByteS.f k (skBytes c s mn mx h r R) (skBytes c s mn mx h r R) = some true := h5 k (by omega)
    have q6 : laws_eqSketch.f k c s mn mx h r R c s mn mx h r R = some true := h6 k (by omega)
    have q7 : laws_markByteS.f k (skBytes c s mn mx h r R) 1 = some (((1 + (skBytes c s mn mx h r R).length : Nat) : Int), marks8 1 (skBytes c s mn mx h r R).length) := h7 k (by omega)
    have q8 : laws_heldByteS.f k (marks8 1 (skBytes c s mn mx h r R).length) 1 = some ((1 + (skBytes c s mn mx h r R).length : Nat) : Int) := h8 k (by omega)
    have q9 : MkI k := mkI k (by omega)
    generalize skBytes c s mn mx h r R = l at *
    have d1 : decide (v < 0) = false := decide_eq_false hneg
    have d2 : decide (((1 + l.length : Nat) : Int) < 0) = false := decide_eq_false (by omega)
    have d3 : decide ((1 : Int) + (h.length : Int) + (r.length : Int) + (lensII R : Nat) < 0) = false := decide_eq_false (by omega)
    have L := law0 k v ((1 : Int) + (h.length : Int) + (r.length : Int) + (lensII R : Nat)) ((1 + l.length : Nat) : Int) c s mn mx _ _ _ h r R l (marks8 1 l.length) w u ⟨q1⟩ d1 ⟨q2⟩ ⟨q3⟩ ⟨q4⟩ ⟨q5⟩ ⟨q6⟩ ⟨q9⟩ ⟨rfl, by omega, b1, b2, b3, b4⟩ d3 ⟨q7⟩ ⟨q8⟩ d2
    exact L

end Go.Proofs.Ytnidahdhlocpnaa.HFnExactSketchBytes
