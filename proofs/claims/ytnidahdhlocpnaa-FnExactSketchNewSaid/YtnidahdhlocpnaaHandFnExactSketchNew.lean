/- SketchNew of the program is SketchNew of the reference, and what it hands back is memory of its own; the law is walked by hand. -/
import Derived.Test.YtnidahdhlocpnaaPFnExactSketchNewx1
import Derived.Test.YtnidahdhlocpnaaPFnExactSketchNewx2
import Derived.Test.YtnidahdhlocpnaaPFnExactSketchNewx3
import Derived.Test.YtnidahdhlocpnaaAid
import Derived.WalkKit
namespace Go.Proofs.Ytnidahdhlocpnaa.HFnExactSketchNew
open Go.RowKit Go.Proofs.Ytnidahdhlocpnaa.PFnExactSketchNew Go.Proofs.YtnidahdhlocpnaaW.PrintWords Go.Proofs.YtnidahdhlocpnaaW.PrintLast Go.Proofs.YtnidahdhlocpnaaW.PrintMore Go.Proofs.Ytnidahdhlocpnaa.Aid
set_option linter.unusedVariables false

/-! ### sketches of one's own, by the blocks that they lie in -/
structure Sl where
  A : Option Addr
  n : Nat
  c : Nat
/-- A sketch that is read: its rows lie in blocks from a on, ahead of b. -/
def Rk (w : World) (a b : Nat) (x y z : Sl) (h r : List Int) (R : List (List Int)) : Prop :=
  Kd.R (Kd.int .i64) 3 w a (fun k => k < b) (.slice x.A x.n x.c) h ∧ Kd.R (Kd.int .i64) 3 w a (fun k => k < b) (.slice y.A y.n y.c) r ∧ Kd.N (Kd.slice 3 (Kd.int .i64)) 34 w a (fun k => a ≤ k ∧ k < b) (.slice z.A z.n z.c) R
/-- A sketch that may be written: no two of its rows share. -/
def Sk (w : World) (a b : Nat) (x y z : Sl) (h r : List Int) (R : List (List Int)) : Prop :=
  Kd.R (Kd.int .i64) 3 w a (fun k => k < b) (.slice x.A x.n x.c) h ∧ Kd.R (Kd.int .i64) 3 w a (fun k => k < b ∧ some k ≠ (Value.slice x.A x.n x.c).ownBlock) (.slice y.A y.n y.c) r ∧
  Kd.S (Kd.slice 3 (Kd.int .i64)) 34 w a (fun k => k < b ∧ some k ≠ (Value.slice x.A x.n x.c).ownBlock ∧ some k ≠ (Value.slice y.A y.n y.c).ownBlock) (.slice z.A z.n z.c) R
section
variable {w w1 w' W : World} {a b a' b' : Nat} {x y z x' y' z' : Sl} {h r h' r' : List Int} {R R' : List (List Int)}
theorem Sk.rk (s : Sk w a b x y z h r R) : Rk w a b x y z h r R :=
  ⟨s.1, Kd.R_mono s.2.1 (fun _ hk => hk.1), Kd.S_N (Kd.S_mono (Kd.S_bound s.2.2) (fun _ hk => ⟨hk.2.1, hk.1.1⟩))⟩
theorem Rk.step (s : Rk w a b x y z h r R) (hm : ∀ k, a ≤ k → k < b → k < w.heap.size → w1.heap[k]? = w.heap[k]?) : Rk w1 a b x y z h r R :=
  ⟨Kd.R_mono (Kd.R_move (Kd.R_bound s.1) (fun k hk => hm k hk.2.1 hk.1 hk.2.2.1)) (fun _ hk => hk.1), Kd.R_mono (Kd.R_move (Kd.R_bound s.2.1) (fun k hk => hm k hk.2.1 hk.1 hk.2.2.1)) (fun _ hk => hk.1), Kd.N_step s.2.2 (fun k hk hl => hm k hk.1 hk.2 hl)⟩
theorem Sk.step (s : Sk w a b x y z h r R) (hm : ∀ k, a ≤ k → k < b → k < w.heap.size → w1.heap[k]? = w.heap[k]?) : Sk w1 a b x y z h r R :=
  ⟨Kd.R_mono (Kd.R_move (Kd.R_bound s.1) (fun k hk => hm k hk.2.1 hk.1 hk.2.2.1)) (fun _ hk => hk.1), Kd.R_mono (Kd.R_move (Kd.R_bound s.2.1) (fun k hk => hm k hk.2.1 hk.1.1 hk.2.2.1)) (fun _ hk => hk.1), Kd.S_mono (Kd.S_move (Kd.S_bound s.2.2) (fun k hk => hm k hk.2.1 hk.1.1 hk.2.2.1)) (fun _ hk => hk.1)⟩
theorem Rk.below (s : Rk w a b x y z h r R) (hb : Below w.heap.size w w1) : Rk w1 a b x y z h r R := s.step (fun k _ _ hl => hb.block k hl)
theorem Sk.below (s : Sk w a b x y z h r R) (hb : Below w.heap.size w w1) : Sk w1 a b x y z h r R := s.step (fun k _ _ hl => hb.block k hl)
/-- w is kept but for the blocks from a on, ahead of b. -/
structure Kp (w w' : World) (a b : Nat) : Prop where
  os : w'.os = w.os
  tape : w'.tape = w.tape
  output : w'.output = w.output
  kept : Kept w w' (fun k => a ≤ k ∧ k < b)
theorem Kp.refl (w : World) (a b : Nat) : Kp w w a b := ⟨rfl, rfl, rfl, Kept.refl _ _⟩
theorem Kp.trans (h : Kp w w1 a b) (k : Kp w1 w' a b) : Kp w w' a b := ⟨k.os.trans h.os, k.tape.trans h.tape, k.output.trans h.output, h.kept.then_ k.kept (fun _ hk => .inl hk)⟩
theorem Kp.below (h : Kp w w1 a b) (k : Below w1.heap.size w1 w') : Kp w w' a b := ⟨k.os.trans h.os, k.tape.trans h.tape, k.output.trans h.output, h.kept.below k⟩
theorem Kp.of (h : Below w.heap.size w w1) : Kp w w1 a b := (Kp.refl w a b).below h
theorem below_kp {B : Nat} (h : Below B W w) (k : Kp w w1 a b) (hB : B ≤ a) (hS : B ≤ w.heap.size) : Below B W w1 :=
  ⟨k.os.trans h.os, k.tape.trans h.tape, k.output.trans h.output, Nat.le_trans h.size k.kept.1, fun i hi => (k.kept.2 i (Nat.lt_of_lt_of_le hi hS) (fun hs => by omega)).trans (h.block i hi)⟩
theorem Rk.kp (s : Rk w a' b' x y z h r R) (k : Kp w w1 a b) (ha : b ≤ a' ∨ b' ≤ a) : Rk w1 a' b' x y z h r R := s.step (fun i h1 h2 h3 => k.kept.2 i h3 (fun hs => by omega))
theorem Sk.kp (s : Sk w a' b' x y z h r R) (k : Kp w w1 a b) (ha : b ≤ a' ∨ b' ≤ a) : Sk w1 a' b' x y z h r R := s.step (fun i h1 h2 h3 => k.kept.2 i h3 (fun hs => by omega))
theorem Rk.reads (s : Rk w a b x y z h r R) : x.n = h.length ∧ y.n = r.length ∧ z.n = R.length ∧ x.n ≤ x.c ∧ y.n ≤ y.c ∧ z.n ≤ z.c ∧ (Kd.int .i64).C w x.A h.length h ∧ (Kd.int .i64).C w y.A r.length r ∧ (Kd.slice 3 (Kd.int .i64)).C w z.A R.length R := by
  obtain ⟨h1, h2, h3⟩ := Kd.R_reads' s.1
  obtain ⟨h4, h5, h6⟩ := Kd.R_reads' s.2.1
  obtain ⟨h7, h8, h9⟩ := Kd.N_reads' s.2.2
  exact ⟨h1, h4, h7, h2, h5, h8, h3, h6, h9⟩
/-- A box: a struct's variable in memory. -/
def Bx (w : World) (g t : Nat) (cs : Array Value) : Prop := w.heap[g]? = some (.cells cs t (0, 0))
theorem Bx.lt {g t : Nat} {cs : Array Value} (hb : Bx w g t cs) : g < w.heap.size := blk_lt hb
theorem Bx.below {g t : Nat} {cs : Array Value} (hb : Bx w g t cs) (k : Below w.heap.size w w1) : Bx w1 g t cs := blk_below hb k
theorem Bx.kp {g t : Nat} {cs : Array Value} (hb : Bx w g t cs) (k : Kp w w1 a b) (hg : g < a ∨ b ≤ g) : Bx w1 g t cs := (k.kept.2 g hb.lt (fun hs => by omega)).trans hb
theorem Bx.new (w : World) (t : Nat) (cs : Array Value) : Bx (w.alloc (.cells cs t)) w.heap.size t cs := blk_new w _
theorem Bx.cells {g t : Nat} {v0 v1 v2 v3 v4 v5 v6 : Value} (hb : Bx w g t #[v0, v1, v2, v3, v4, v5, v6]) :
    w.cell? ⟨g, 0, none⟩ = some v0 ∧ w.cell? ⟨g, 1, none⟩ = some v1 ∧ w.cell? ⟨g, 2, none⟩ = some v2 ∧ w.cell? ⟨g, 3, none⟩ = some v3 ∧ w.cell? ⟨g, 4, none⟩ = some v4 ∧ w.cell? ⟨g, 5, none⟩ = some v5 ∧ w.cell? ⟨g, 6, none⟩ = some v6 :=
  ⟨blk_cell hb 0, blk_cell hb 1, blk_cell hb 2, blk_cell hb 3, blk_cell hb 4, blk_cell hb 5, blk_cell hb 6⟩
end
theorem eq_call (k : Nat) {w : World} {a b a' b' : Nat} {x y z x' y' z' : Sl} {h r : List Int} {R : List (List Int)} (c s mn mx : Int) (u : Rk w a b x y z h r R) (u' : Rk w a' b' x' y' z' h r R) (he : laws_eqSketch.f k c s mn mx h r R c s mn mx h r R = some true) :
    Calls Try.prog 27 #[.agg #[.int .i64 c, .int .i64 s, .int .i64 mn, .int .i64 mx, .slice x.A x.n x.c, .slice y.A y.n y.c, .slice z.A z.n z.c], .agg #[.int .i64 c, .int .i64 s, .int .i64 mn, .int .i64 mx, .slice x'.A x'.n x'.c, .slice y'.A y'.n y'.c, .slice z'.A z'.n z'.c]] w fun e w' => e = .returned (.bool true) ∧ Below w.heap.size w w' := by
  obtain ⟨e1, e2, e3, l1, l2, l3, C1, C2, C3⟩ := u.reads
  obtain ⟨e1', e2', e3', l1', l2', l3', C1', C2', C3'⟩ := u'.reads
  rw [e1, e2, e3, e1', e2', e3']
  exact laws_eqSketch.calls k c s mn mx _ _ h _ _ r _ _ R c s mn mx _ _ h _ _ r _ _ R true w C1 (by omega) C2 (by omega) C3 (by omega) C1' (by omega) C2' (by omega) C3' (by omega) ⟨rfl⟩ he
theorem held_call (k : Nat) {w : World} {a b : Nat} {x y z : Sl} {h r : List Int} {R : List (List Int)} (c s mn mx k0 k1 : Int) (u : Rk w a b x y z h r R) (he : laws_heldSketch.f k c s mn mx h r R k0 = some k1) :
    Calls Try.prog 29 #[.agg #[.int .i64 c, .int .i64 s, .int .i64 mn, .int .i64 mx, .slice x.A x.n x.c, .slice y.A y.n y.c, .slice z.A z.n z.c], .int .i64 k0] w fun e w' => e = .returned (.int .i64 k1) ∧ Below w.heap.size w w' := by
  obtain ⟨e1, e2, e3, l1, l2, l3, C1, C2, C3⟩ := u.reads
  rw [e1, e2, e3]
  exact laws_heldSketch.calls k c s mn mx _ _ h _ _ r _ _ R k0 k1 w C1 (by omega) C2 (by omega) C3 (by omega) he
def marksI (k : Int) (n : Nat) : List Int := (List.range n).map fun j : Nat => k + (j : Int)
theorem marksI_length (k : Int) (n : Nat) : (marksI k n).length = n := by simp [marksI]
theorem marksI_get (k : Int) (n i : Nat) (h : i < (marksI k n).length) : (marksI k n)[i] = k + (i : Int) := by simp [marksI]
/-- What a mark writes into rows, one behind the other. -/
def marksII : Int → List (List Int) → List (List Int)
  | _, [] => []
  | k, l :: ls => marksI k l.length :: marksII (k + (l.length : Int)) ls
def lensII : List (List Int) → Nat
  | [] => 0
  | l :: ls => l.length + lensII ls
theorem marksII_length (ls : List (List Int)) : ∀ k, (marksII k ls).length = ls.length := by
  induction ls with
  | nil => intro k; rfl
  | cons l ls ih => intro k; simp [marksII, ih]
theorem lensII_take (ls : List (List Int)) : ∀ i, (h : i < ls.length) → lensII (ls.take (i + 1)) = lensII (ls.take i) + ls[i].length := by
  induction ls with
  | nil => intro i h; simp at h
  | cons l ls ih =>
    intro i h
    cases i with
    | zero => simp [lensII]
    | succ i =>
      have := ih i (by simpa using h)
      simp only [List.take_succ_cons, lensII, List.getElem_cons_succ]
      omega
theorem lensII_le (ls : List (List Int)) : ∀ i, lensII (ls.take i) ≤ lensII ls := by
  induction ls with
  | nil => intro i; simp [lensII]
  | cons l ls ih =>
    intro i
    cases i with
    | zero => simp [lensII]
    | succ i => have := ih i; simp only [List.take_succ_cons, lensII]; omega
theorem marksII_get (ls : List (List Int)) : ∀ (k : Int) (i : Nat) (h : i < ls.length), (marksII k ls)[i]'(by rw [marksII_length]; exact h) = marksI (k + (lensII (ls.take i) : Nat)) ls[i].length := by
  induction ls with
  | nil => intro k i h; simp at h
  | cons l ls ih =>
    intro k i h
    cases i with
    | zero => simp [marksII, lensII]
    | succ i =>
      have := ih (k + (l.length : Int)) i (by simpa using h)
      simp only [marksII, List.getElem_cons_succ, this, List.take_succ_cons, lensII]
      congr 1
      omega
/-- Row by row: those ahead of i are marked. -/
theorem marksII_set (ls : List (List Int)) (k : Int) (i : Nat) (h : i < ls.length) : ((marksII k ls).take i ++ ls.drop i).set i (marksI (k + (lensII (ls.take i) : Nat)) ls[i].length) = (marksII k ls).take (i + 1) ++ ls.drop (i + 1) := by
  have hl : ((marksII k ls).take i).length = i := by rw [List.length_take, marksII_length]; omega
  rw [List.set_append_right _ _ (by omega), hl, Nat.sub_self, List.drop_eq_getElem_cons h, List.set_cons_zero, List.take_succ_eq_append_getElem (by rw [marksII_length]; exact h), marksII_get ls k i h, List.append_assoc]
  rfl
theorem markI_call (k : Nat) {w : World} {a b : Nat} {v : Value} {l : List Int} {ok : Nat → Prop} (k0 : Int) (u : Kd.R (Kd.int .i64) 3 w a ok v l) (hok : ∀ k, ok k → k < b) (ha : a ≤ w.heap.size) (he : laws_markIntS.f k l k0 = some (k0 + (l.length : Int), marksI k0 l.length)) :
    Calls Try.prog 71 #[v, .int .i64 k0] w fun e w' => e = .returned (.int .i64 (k0 + (l.length : Int))) ∧ Kd.R (Kd.int .i64) 3 w' a ok v (marksI k0 l.length) ∧ Kp w w' a b ∧ Kept w w' (fun k => some k = v.ownBlock) := by
  -- the world at the row's begin: one with a blocks
  obtain ⟨w0, hw0, hB⟩ : ∃ w0 : World, w0.heap.size = a ∧ Below a w0 w := by
    refine ⟨{ w with heap := w.heap.extract 0 a }, by simp; omega, ⟨rfl, rfl, rfl, by simp; omega, fun i hi => ?_⟩⟩
    simp [Array.getElem?_extract]
    omega
  subst hw0
  have u1 : Kd.R (Kd.int .i64) 3 w w0.heap.size (fun k => some k = v.ownBlock) v l := Kd.R_tight rfl u
  refine (laws_markIntS.calls k (fun k => some k = v.ownBlock) v l k0 _ _ w0 w hB u1 he).mono ?_
  rintro e w' ⟨rfl, hr, hb, hk⟩
  refine ⟨rfl, Kd.R_reok rfl hr (fun k hk => u.1 k hk), ⟨hb.os.trans hB.os.symm, hb.tape.trans hB.tape.symm, hb.output.trans hB.output.symm, hk.mono (fun i hi => ⟨Kd.R_base u i hi.symm, hok i (u.1 i hi.symm)⟩)⟩, hk⟩
set_option maxHeartbeats 4000000 in
theorem markII_call (k : Nat) (hm : Aside0 (∀ (l : List Int) (k0 : Int), l.length ≤ 1048576 → 0 ≤ k0 → k0 ≤ 1073741824 → laws_markIntS.f k l k0 = some (k0 + (l.length : Int), marksI k0 l.length))) {w : World} {a b : Nat} {z : Sl} {R : List (List Int)} {ok : Nat → Prop} (k0 : Int) (u : Kd.S (Kd.slice 3 (Kd.int .i64)) 34 w a ok (.slice z.A z.n z.c) R) (hok : ∀ k, ok k → k < b) (ha : a ≤ w.heap.size)
    (hk0 : 0 ≤ k0) (hkb : k0 + (lensII R : Nat) ≤ 1073741824) (hR : R.length ≤ 1048576) (hl : ∀ l ∈ R, l.length ≤ 1048576) :
    Calls Try.prog 72 #[.slice z.A z.n z.c, .int .i64 k0] w fun e w' => e = .returned (.int .i64 (k0 + (lensII R : Nat))) ∧ Kd.S (Kd.slice 3 (Kd.int .i64)) 34 w' a ok (.slice z.A z.n z.c) (marksII k0 R) ∧ Kp w w' a b ∧ Kept w w' ok := by
  have hzn : z.n = R.length := (Kd.S_reads' u).1
  have HZ := Aside0.mk hzn
  have HL := Aside0.mk hl
  have HOK := Aside0.mk hok
  have U := Aside0.mk u
  have HR := Aside0.mk hR
  have HB := Aside0.mk hkb
  have HA := Aside0.mk ha
  have hzm : z.n ≤ 1048576 := by omega
  clear hzn hl hok u hR hkb ha
  go_enter Try.func72, Try.ntmps72
  go_wp2
  go_loopg [1, 5] z.n (fun gg s1 s5 wr => ∃ i : Nat, i ≤ z.n ∧ z.n - i ≤ gg ∧ s5 = .int .i64 i ∧ s1 = .int .i64 (k0 + (lensII (R.take i) : Nat)) ∧ Aside0 (Kd.S (Kd.slice 3 (Kd.int .i64)) 34 wr a ok (.slice z.A z.n z.c) ((marksII k0 R).take i ++ R.drop i)) ∧ Aside0 (Kp w wr a b) ∧ Aside0 (Kept w wr ok))
  case atStart => exact ⟨0, Nat.zero_le _, by omega, rfl, by simp [lensII], ⟨by simpa using U.out⟩, ⟨Kp.refl _ _ _⟩, ⟨Kept.refl _ _⟩⟩
  case round =>
    obtain ⟨i, hi, hg, rfl, rfl, S, KP, KT⟩ := hrel
    have lk := lensII_le R i
    have lk' : k0 + (lensII (R.take i) : Nat) ≤ 1073741824 := by have := HB.out; omega
    by_cases hlt : i < z.n
    · have hltz : (i : Int) < (z.n : Int) := by omega
      have hiR : i < R.length := by have := HZ.out; omega
      have hcl : ((marksII k0 R).take i ++ R.drop i).length = R.length := by rw [List.length_append, List.length_take, List.length_drop, marksII_length]; omega
      obtain ⟨g, cap, hv, hbg, hgs, _⟩ := Kd.S_form S.out (by rw [hcl]; omega)
      injection hv with hA hn hc
      have S2 := S.out
      rw [hA] at S2
      obtain ⟨oki, c, hcl2, hM, hcell, hoki, hH⟩ := Kd.S_lend S2 ([] : List Int) (i : Int) (by omega) (by omega)
      obtain ⟨v, rfl, hRv⟩ := hM
      have hget : ((marksII k0 R).take i ++ R.drop i).getD (i : Int).toNat [] = R[i] := by
        rw [Int.toNat_natCast, List.getD_eq_getElem?_getD, List.getElem?_append_right (by rw [List.length_take, marksII_length]; omega), List.length_take, marksII_length, Nat.min_eq_left (by omega), Nat.sub_self, List.drop_eq_getElem_cons hiR]
        rfl
      rw [hget] at hRv
      have hc0 := hcell 0 v rfl
      simp only [Int.toNat_natCast, Kd.slice, Nat.mul_one, Nat.add_zero] at hc0
      obtain ⟨A1, c1, rfl⟩ := Kd.R_slice hRv
      have hl1 : R[i].length ≤ 1048576 := HL.out _ (List.getElem_mem hiR)
      have hcall := markI_call (b := b) k (k0 + (lensII (R.take i) : Nat)) hRv (fun q hq => HOK.out q (hoki q hq).1) (Nat.le_trans HA.out KT.out.1) (hm.out _ _ hl1 (by omega) lk')
      have hts := lensII_take R i hiR
      have hset := marksII_set R k0 i hiR
      have HH := Aside0.mk hH
      have HRV := Aside0.mk hRv
      have HOI := Aside0.mk hoki
      have HTS := Aside0.mk hts
      have HSET := Aside0.mk hset
      have HAA := Aside0.mk hA
      clear hcell hcl2 hget hH hRv hoki hts hset S S2 hn hc hA hcl
      have hAz : z.A = some ⟨g, 0, none⟩ := HAA.out
      generalize hzA : z.A = zA at *
      subst hAz
      go_wp2_with (go_at_call 71; refine hcall.mono ?_; rintro e w' ⟨rfl, hr2, hkp, hkt⟩; have HR2 := Aside0.mk hr2; have HKP := Aside0.mk hkp; have HKT := Aside0.mk hkt; clear hr2 hkp hkt)
      go_roundg (z.n - (i + 1))
      case measure => omega
      case rel =>
        refine ⟨i + 1, by omega, by omega, by go_num, by rw [HTS.out]; congr 1; omega, ⟨?_⟩, ⟨KP.out.trans HKP.out⟩, ⟨?_⟩⟩
        · have h1 := Kd.H_kept HH.out HKT.out (fun q hq hn hs => hn (HRV.out.1 q hs.symm))
          have h2 := Kd.H_back h1 (x' := marksI (k0 + (lensII (R.take i) : Nat)) R[i].length) (okp := oki) ⟨_, rfl, HR2.out⟩ (fun _ hq => hq)
          rw [Int.toNat_natCast, HSET.out] at h2
          exact h2
        · exact KT.out.then_ HKT.out (fun q hq => .inl (HOI.out q (HRV.out.1 q hq.symm)).1)
    · have hltz : ¬ (i : Int) < (z.n : Int) := by omega
      have hiz : i = R.length := by have := HZ.out; omega
      have S2 := S.out
      rw [hiz, List.drop_length, List.append_nil, List.take_of_length_le (by rw [marksII_length]; exact Nat.le_refl _)] at S2
      have ht : R.take i = R := by rw [hiz, List.take_length]
      rw [ht]
      have SS := Aside0.mk S2
      clear S2 ht hiz
      go_wp2
      go_ret
      exact ⟨rfl, SS.out, KP.out, KT.out⟩
theorem row_kept {w w' : World} {a e : Nat} {ok S : Nat → Prop} {v : Value} {l : List Int} (u : Kd.R (Kd.int .i64) e w a ok v l) (hk : Kept w w' S) (hne : ∀ k, v.ownBlock = some k → ¬ S k) : Kd.R (Kd.int .i64) e w' a ok v l :=
  Kd.R_reok rfl (Kd.R_kept (Kd.R_tight rfl u) hk (fun k hk' => hne k hk'.symm)) (fun k hk' => u.1 k hk')
def MkI (k : Nat) : Prop := ∀ (l : List Int) (k0 : Int), l.length ≤ 1048576 → 0 ≤ k0 → k0 ≤ 1073741824 → laws_markIntS.f k l k0 = some (k0 + (l.length : Int), marksI k0 l.length)
set_option maxHeartbeats 4000000 in
theorem mark_call (k : Nat) (hm : Aside0 (MkI k)) {w : World} {a b : Nat} {x y z : Sl} {h r : List Int} {R : List (List Int)} (c s mn mx k0 : Int) (u : Sk w a b x y z h r R) (ha : a ≤ w.heap.size) (hb : b ≤ w.heap.size)
    (hk0 : 0 ≤ k0) (hkb : k0 + (h.length : Int) + (r.length : Int) + (lensII R : Nat) ≤ 1073741824) (hh : h.length ≤ 1048576) (hr : r.length ≤ 1048576) (hR : R.length ≤ 1048576) (hl : ∀ l ∈ R, l.length ≤ 1048576) :
    Calls Try.prog 28 #[.agg #[.int .i64 c, .int .i64 s, .int .i64 mn, .int .i64 mx, .slice x.A x.n x.c, .slice y.A y.n y.c, .slice z.A z.n z.c], .int .i64 k0] w fun e w' => e = .returned (.int .i64 (k0 + (h.length : Int) + (r.length : Int) + (lensII R : Nat))) ∧
      Sk w' a b x y z (marksI k0 h.length) (marksI (k0 + (h.length : Int)) r.length) (marksII (k0 + (h.length : Int) + (r.length : Int)) R) ∧ Kp w w' a b := by
  obtain ⟨ux, uy, uz⟩ := u
  have hB := Bx.new w 37 #[.int .i64 c, .int .i64 s, .int .i64 mn, .int .i64 mx, .slice x.A x.n x.c, .slice y.A y.n y.c, .slice z.A z.n z.c]
  have hb0 : Below w.heap.size w (w.alloc (.cells #[.int .i64 c, .int .i64 s, .int .i64 mn, .int .i64 mx, .slice x.A x.n x.c, .slice y.A y.n y.c, .slice z.A z.n z.c] 37)) := below_alloc (Below.refl _ _) _
  have call1 := fun W (hW : Below w.heap.size w W) => markI_call (b := b) k k0 (Kd.R_below ux hW) (fun _ hq => hq) (Nat.le_trans ha hW.size) (hm.out h k0 hh hk0 (by omega))
  have call2 := fun W (uy : Kd.R (Kd.int .i64) 3 W a (fun k => k < b ∧ some k ≠ (Value.slice x.A x.n x.c).ownBlock) (.slice y.A y.n y.c) r) (ha : a ≤ W.heap.size) => markI_call (b := b) k (k0 + (h.length : Int)) uy (fun _ hq => hq.1) ha (hm.out r (k0 + (h.length : Int)) hr (by omega) (by omega))
  have call3 := fun W (uz : Kd.S (Kd.slice 3 (Kd.int .i64)) 34 W a (fun k => k < b ∧ some k ≠ (Value.slice x.A x.n x.c).ownBlock ∧ some k ≠ (Value.slice y.A y.n y.c).ownBlock) (.slice z.A z.n z.c) R) (ha : a ≤ W.heap.size) => markII_call (b := b) k ⟨fun l k0 h1 h2 h3 => hm.out l k0 h1 h2 h3⟩ (k0 + (h.length : Int) + (r.length : Int)) uz (fun _ hq => hq.1) ha (by omega) hkb hR hl
  have UX := Aside0.mk ux
  have UY := Aside0.mk uy
  have UZ := Aside0.mk uz
  have HBX := Aside0.mk hB
  have HB0 := Aside0.mk hb0
  have HBB := Aside0.mk hb
  have HA := Aside0.mk ha
  have K1 := Aside0.mk call1
  have K2 := Aside0.mk call2
  have K3 := Aside0.mk call3
  clear ux uy uz hB hb0 hb ha call1 call2 call3 hkb hh hr hR hl hk0
  go_enter Try.func28, Try.ntmps28
  go_wp2_with fail
  refine (K1.out _ HB0.out).mono ?_
  rintro e w1 ⟨rfl, hr1, hkp1, hkt1⟩
  have bx1 := Bx.kp HBX.out hkp1 (.inr HBB.out)
  have y1 := row_kept (Kd.R_below UY.out HB0.out) hkt1 (fun q hq hs => (UY.out.1 q hq).2 hs)
  have z1 := Kd.S_kept (Kd.S_below UZ.out HB0.out) hkt1 (fun q hq hs => hq.2.1 hs)
  have cells := bx1.cells
  obtain ⟨_, _, _, _, _, c5, _⟩ := cells
  have X1 := Aside0.mk hr1
  have KP1 := Aside0.mk hkp1
  have BX1 := Aside0.mk bx1
  have Y1 := Aside0.mk y1
  have Z1 := Aside0.mk z1
  clear hr1 hkp1 hkt1 bx1 y1 z1
  go_wp2_with fail
  clear c5
  refine (K2.out _ Y1.out (Nat.le_trans HA.out (Nat.le_trans HB0.out.size KP1.out.kept.1))).mono ?_
  rintro e w2 ⟨rfl, hr2, hkp2, hkt2⟩
  have bx2 := Bx.kp BX1.out hkp2 (.inr HBB.out)
  have x2 := row_kept X1.out hkt2 (fun q hq hs => (UY.out.1 q hs.symm).2 hq.symm)
  have z2 := Kd.S_kept Z1.out hkt2 (fun q hq hs => hq.2.2 hs)
  have cells := bx2.cells
  obtain ⟨_, _, _, _, _, _, c6⟩ := cells
  have X2 := Aside0.mk x2
  have KP2 := Aside0.mk (KP1.out.trans hkp2)
  have BX2 := Aside0.mk bx2
  have Y2 := Aside0.mk hr2
  have Z2 := Aside0.mk z2
  clear hr2 hkp2 hkt2 bx2 x2 z2
  go_wp2_with fail
  clear c6
  refine (K3.out _ Z2.out (Nat.le_trans HA.out (Nat.le_trans HB0.out.size KP2.out.kept.1))).mono ?_
  rintro e w3 ⟨rfl, hr3, hkp3, hkt3⟩
  have x3 := row_kept X2.out hkt3 (fun q hq hs => hs.2.1 hq.symm)
  have y3 := row_kept Y2.out hkt3 (fun q hq hs => hs.2.2 hq.symm)
  have S3 := Aside0.mk (show Sk w3 a b x y z _ _ _ from ⟨x3, y3, hr3⟩)
  have KP3 := Aside0.mk (((Kp.of HB0.out).trans KP2.out).trans hkp3)
  clear hr3 hkp3 hkt3 x3 y3
  go_wp2
  go_ret
  exact ⟨rfl, S3.out, KP3.out⟩
theorem rdR_get {xs : List (List Int)} {n : Nat} (h : n < xs.length) : rd_L1 xs (n : Int) = xs[n] := by
  unfold rd_L1
  rw [Int.toNat_natCast, List.getD_eq_getElem?_getD, List.getElem?_eq_getElem h]
  rfl
theorem markI_at (a : Int) (n : Nat) (ha : 0 ≤ a) (hb : a ≤ 1073741824) (hn : n ≤ 1048576) (d : Nat) : ∀ (k i : Nat) (x3 : List Int), d < k → i + d = n → x3.length = n → x3.take i = (marksI a n).take i →
    laws_markIntS.l0 k x3 (a + (i : Int)) (i : Int) = some (a + (n : Int), marksI a n) := by
  induction d with
  | zero =>
    intro k i x3 hk hi hl ht
    obtain ⟨k, rfl⟩ : ∃ m, k = m + 1 := ⟨k - 1, by omega⟩
    simp only [laws_markIntS.l0]
    rw [if_neg (by omega), take_all (ys := marksI a n) (by rw [hl, marksI_length]) (by rw [marksI_length]; omega) ht, show i = n by omega]
  | succ d ih =>
    intro k i x3 hk hi hl ht
    obtain ⟨k, rfl⟩ : ∃ m, k = m + 1 := ⟨k - 1, by omega⟩
    simp only [laws_markIntS.l0]
    rw [if_pos (by omega), if_pos (by omega), w64 (x := (i : Int) + 1) (by omega) (by omega), w64 (x := a + (i : Int) + 1) (by omega) (by omega), Int.toNat_natCast]
    have e := ih k (i + 1) (x3.set i (a + (i : Int))) (by omega) (by omega) (by simp [hl]) (by
      have hm : a + (i : Int) = (marksI a n)[i]'(by rw [marksI_length]; omega) := by rw [marksI_get]
      rw [hm]
      exact take_set (ys := marksI a n) (by rw [hl, marksI_length]) (by rw [marksI_length]; omega) ht)
    rw [show (i : Int) + 1 = ((i + 1 : Nat) : Int) by omega, show a + (i : Int) + 1 = a + ((i + 1 : Nat) : Int) by omega]
    exact e
theorem mkI (k : Nat) (hk : 1048577 ≤ k) : MkI k := by
  intro l k0 hl h0 h1
  have := markI_at k0 l.length h0 h1 hl l.length k 0 l (by omega) (by omega) rfl (by simp)
  simpa [laws_markIntS.f] using this
theorem heldI_at (a : Int) (n : Nat) (ha : 0 ≤ a) (hb : a ≤ 1073741824) (hn : n ≤ 1048576) (d : Nat) : ∀ i : Nat, i + d = n →
    Ev (fun k => laws_heldIntS.l0 k (marksI a n) (a + (i : Int)) (i : Int)) (a + (n : Int)) := by
  induction d with
  | zero =>
    intro i hi
    refine Ev.step (fun _ => rfl) ?_
    simp only [laws_heldIntS.l0]
    exact ev_neg (by rw [marksI_length]; omega) (ev_some (by rw [show i = n by omega]))
  | succ d ih =>
    intro i hi
    refine Ev.step (fun _ => rfl) ?_
    simp only [laws_heldIntS.l0]
    have hl := marksI_length a n
    refine ev_pos (by omega) (ev_pos (by omega) (ev_pos (by rw [rd_get (show i < (marksI a n).length by omega), marksI_get]) ?_))
    rw [w64 (x := (i : Int) + 1) (by omega) (by omega), w64 (x := a + (i : Int) + 1) (by omega) (by omega), show (i : Int) + 1 = ((i + 1 : Nat) : Int) by omega, show a + (i : Int) + 1 = a + ((i + 1 : Nat) : Int) by omega]
    exact ih (i + 1) (by omega)
theorem heldI_ev (a : Int) (n : Nat) (ha : 0 ≤ a) (hb : a ≤ 1073741824) (hn : n ≤ 1048576) : Ev (fun k => laws_heldIntS.f k (marksI a n) a) (a + (n : Int)) := by
  have := heldI_at a n ha hb hn n 0 (by omega)
  simpa [laws_heldIntS.f] using this
theorem heldII_at (a : Int) (R : List (List Int)) (ha : 0 ≤ a) (hb : a + (lensII R : Nat) ≤ 1073741824) (hR : R.length ≤ 1048576) (hl : ∀ l ∈ R, l.length ≤ 1048576) (d : Nat) : ∀ i : Nat, i + d = R.length →
    Ev (fun k => laws_heldIntSS.l0 k (marksII a R) (a + (lensII (R.take i) : Nat)) (i : Int)) (a + (lensII R : Nat)) := by
  induction d with
  | zero =>
    intro i hi
    refine Ev.step (fun _ => rfl) ?_
    simp only [laws_heldIntSS.l0]
    exact ev_neg (by rw [marksII_length]; omega) (ev_some (by rw [show i = R.length by omega, List.take_length]))
  | succ d ih =>
    intro i hi
    refine Ev.step (fun _ => rfl) ?_
    simp only [laws_heldIntSS.l0]
    have hlen := marksII_length R a
    have hiR : i < R.length := by omega
    have hle := lensII_le R i
    have ht := lensII_take R i hiR
    have hg : rd_L1 (marksII a R) (i : Int) = marksI (a + (lensII (R.take i) : Nat)) R[i].length := by rw [rdR_get (show i < (marksII a R).length by omega), marksII_get R a i hiR]
    rw [hg, wsucc (by omega)]
    refine ev_pos (by omega) (ev_pos (by omega) (Ev.bind (heldI_ev (a + (lensII (R.take i) : Nat)) R[i].length (by omega) (by omega) (hl _ (List.getElem_mem hiR))) (ev_neg (by omega) ?_)))
    rw [show a + (lensII (R.take i) : Nat) + (R[i].length : Int) = a + (lensII (R.take (i + 1)) : Nat) by omega]
    exact ih (i + 1) (by omega)
theorem heldSketch_ev (c s mn mx a : Int) (n m : Nat) (R : List (List Int)) (ha : 0 ≤ a) (hb : a + (n : Int) + (m : Int) + (lensII R : Nat) ≤ 1073741824) (hn : n ≤ 1048576) (hm : m ≤ 1048576) (hR : R.length ≤ 1048576) (hl : ∀ l ∈ R, l.length ≤ 1048576) :
    Ev (fun k => laws_heldSketch.f k c s mn mx (marksI a n) (marksI (a + (n : Int)) m) (marksII (a + (n : Int) + (m : Int)) R) a) (a + (n : Int) + (m : Int) + (lensII R : Nat)) := by
  unfold laws_heldSketch.f
  refine Ev.bind (heldI_ev a n ha (by omega) hn) (ev_neg (by omega) (Ev.bind (heldI_ev (a + (n : Int)) m (by omega) (by omega) hm) (ev_neg (by omega) ?_)))
  have := heldII_at (a + (n : Int) + (m : Int)) R (by omega) hb hR hl R.length 0 (by omega)
  rw [show lensII (R.take 0) = 0 from by simp [lensII]] at this
  exact Ev.bind (by simpa [laws_heldIntSS.f] using this) (ev_neg (by omega) (ev_some rfl))
section
variable {w' : World} {base : Nat} {ok4 ok5 ok6 : Nat → Prop} {v4 v5 v6 : Value} {h r : List Int} {R : List (List Int)}
theorem Rk.of (h4 : Kd.R (Kd.int .i64) 3 w' base ok4 v4 h) (h5 : Kd.R (Kd.int .i64) 3 w' base ok5 v5 r) (h6 : Kd.N (Kd.slice 3 (Kd.int .i64)) 34 w' base ok6 v6 R) (hok : ∀ k, ok6 k → base ≤ k) :
    ∃ x y z : Sl, v4 = .slice x.A x.n x.c ∧ v5 = .slice y.A y.n y.c ∧ v6 = .slice z.A z.n z.c ∧ Rk w' base w'.heap.size x y z h r R := by
  obtain ⟨A4, c4, rfl⟩ := Kd.R_slice h4
  obtain ⟨A5, c5, rfl⟩ := Kd.R_slice h5
  obtain ⟨A6, c6, rfl, _⟩ := Kd.N_reads h6
  exact ⟨⟨A4, _, c4⟩, ⟨A5, _, c5⟩, ⟨A6, _, c6⟩, rfl, rfl, rfl, Kd.R_mono (Kd.R_bound h4) (fun _ hk => hk.2.2.1), Kd.R_mono (Kd.R_bound h5) (fun _ hk => hk.2.2.1), Kd.N_mono (Kd.N_bound h6) (fun k hk => ⟨hok k hk.1, hk.2⟩)⟩
theorem Sk.of (h4 : Kd.R (Kd.int .i64) 3 w' base ok4 v4 h) (h5 : Kd.R (Kd.int .i64) 3 w' base ok5 v5 r) (h6 : Kd.S (Kd.slice 3 (Kd.int .i64)) 34 w' base ok6 v6 R) (hok5 : ∀ k, ok5 k → some k ≠ v4.ownBlock) (hok6 : ∀ k, ok6 k → some k ≠ v4.ownBlock ∧ some k ≠ v5.ownBlock) :
    ∃ x y z : Sl, v4 = .slice x.A x.n x.c ∧ v5 = .slice y.A y.n y.c ∧ v6 = .slice z.A z.n z.c ∧ Sk w' base w'.heap.size x y z h r R := by
  obtain ⟨A4, c4, rfl⟩ := Kd.R_slice h4
  obtain ⟨A5, c5, rfl⟩ := Kd.R_slice h5
  obtain ⟨A6, c6, rfl⟩ := Kd.S_slice h6
  exact ⟨⟨A4, _, c4⟩, ⟨A5, _, c5⟩, ⟨A6, _, c6⟩, rfl, rfl, rfl, Kd.R_mono (Kd.R_bound h4) (fun _ hk => hk.2.2.1), Kd.R_mono (Kd.R_bound h5) (fun k hk => ⟨hk.2.2.1, hok5 k hk.1⟩), Kd.S_mono (Kd.S_bound h6) (fun k hk => ⟨hk.2.2.1, hok6 k hk.1⟩)⟩
end
theorem eqIntS_at (x0 : List Int) (hn : x0.length ≤ 1048576) (d : Nat) : ∀ (i : Nat), i + d = x0.length →
    Ev (fun k => laws_eqIntS.l0 k x0 x0 (i : Int)) true := by
  induction d with
  | zero =>
    intro i hi
    refine Ev.step (fun _ => rfl) ?_
    simp only [laws_eqIntS.l0]
    refine ev_neg (by omega) (ev_some rfl)
  | succ d ih =>
    intro i hi
    refine Ev.step (fun _ => rfl) ?_
    simp only [laws_eqIntS.l0]
    refine ev_pos (by omega) (ev_pos (by omega) (ev_pos (by omega) (ev_pos (by trivial) ?_)))
    rw [wsucc (by omega)]
    exact ih (i + 1) (by omega)
theorem eqIntS_ev (x0 : List Int) (hn : x0.length ≤ 1048576) : Ev (fun k => laws_eqIntS.f k x0 x0) true := by
  unfold laws_eqIntS.f
  exact ev_pos (by trivial) (eqIntS_at x0 hn x0.length 0 (by omega))
theorem eqIntSS_at (x0 : List (List Int)) (hn : x0.length ≤ 1048576) (hx : ∀ x ∈ x0, x.length ≤ 1048576) (d : Nat) : ∀ (i : Nat), i + d = x0.length →
    Ev (fun k => laws_eqIntSS.l0 k x0 x0 (i : Int)) true := by
  induction d with
  | zero =>
    intro i hi
    refine Ev.step (fun _ => rfl) ?_
    simp only [laws_eqIntSS.l0]
    refine ev_neg (by omega) (ev_some rfl)
  | succ d ih =>
    intro i hi
    refine Ev.step (fun _ => rfl) ?_
    simp only [laws_eqIntSS.l0]
    rw [wsucc (by omega), rdR_get (show i < x0.length by omega)]
    refine ev_pos (by omega) (ev_pos (by omega) (ev_pos (by omega) (Ev.bind (eqIntS_ev _ (hx _ (List.getElem_mem (by omega)))) (ev_pos (by trivial) ?_))))
    exact ih (i + 1) (by omega)
theorem eqIntSS_ev (x0 : List (List Int)) (hn : x0.length ≤ 1048576) (hx : ∀ x ∈ x0, x.length ≤ 1048576) : Ev (fun k => laws_eqIntSS.f k x0 x0) true := by
  unfold laws_eqIntSS.f
  exact ev_pos (by trivial) (eqIntSS_at x0 hn hx x0.length 0 (by omega))
theorem eqSketch_ev (c s mn mx : Int) (h r : List Int) (R : List (List Int)) (hh : h.length ≤ 1048576) (hr : r.length ≤ 1048576) (hR : R.length ≤ 1048576) (hx : ∀ x ∈ R, x.length ≤ 1048576) :
    Ev (fun k => laws_eqSketch.f k c s mn mx h r R c s mn mx h r R) true := by
  unfold laws_eqSketch.f
  refine ev_pos (by trivial) (ev_pos (by trivial) (ev_pos (by trivial) (ev_pos (by trivial) ?_)))
  exact Ev.bind (eqIntS_ev h hh) (ev_pos (by trivial) (Ev.bind (eqIntS_ev r hr) (ev_pos (by trivial) (Ev.bind (eqIntSS_ev R hR hx) (ev_pos (by trivial) (ev_some rfl))))))
/-- What the reference's SketchNew lays. -/
theorem new_spec (w : World) : Calls Try.prog 25 #[] w fun e w' => ∃ x y z : Sl, e = .returned (.agg #[.int .i64 0, .int .i64 0, .int .i64 0, .int .i64 0, .slice x.A x.n x.c, .slice y.A y.n y.c, .slice z.A z.n z.c]) ∧ Rk w' w.heap.size w'.heap.size x y z (List.replicate 8 0) (List.replicate 8 0) [List.replicate 4 0, List.replicate 4 0] ∧ Below w.heap.size w w' := by
  refine (spec_SketchNew.calls 0 0 0 0 _ _ _ w rfl).mono ?_
  rintro e w' ⟨v4, v5, v6, rfl, h4, h5, h6, hb⟩
  obtain ⟨x, y, z, rfl, rfl, rfl, hs⟩ := Rk.of h4 h5 h6 (fun _ hk => hk.1)
  exact ⟨x, y, z, rfl, hs, hb⟩
theorem new_impl (w : World) : Calls Try.prog 26 #[] w fun e w' => ∃ x y z : Sl, e = .returned (.agg #[.int .i64 0, .int .i64 0, .int .i64 0, .int .i64 0, .slice x.A x.n x.c, .slice y.A y.n y.c, .slice z.A z.n z.c]) ∧ Sk w' w.heap.size w'.heap.size x y z (List.replicate 8 0) (List.replicate 8 0) [List.replicate 4 0, List.replicate 4 0] ∧ Below w.heap.size w w' := by
  refine (impl_SketchNew.calls 0 0 0 0 _ _ _ w rfl).mono ?_
  rintro e w' ⟨v4, v5, v6, rfl, h4, h5, h6, hb⟩
  obtain ⟨x, y, z, rfl, rfl, rfl, hs⟩ := Sk.of h4 h5 h6 (fun _ hk => hk) (fun _ hk => hk)
  exact ⟨x, y, z, rfl, hs, hb⟩
set_option maxHeartbeats 4000000 in
theorem law (w : World) : Calls Try.prog 5 #[] w fun e w' => e = .returned (.bool true) ∧ Below w.heap.size w w' := by
  obtain ⟨KE, hKE⟩ := eqSketch_ev 0 0 0 0 (List.replicate 8 0) (List.replicate 8 0) [List.replicate 4 0, List.replicate 4 0] (by simp) (by simp) (by simp) (by simp)
  obtain ⟨KH, hKH⟩ := heldSketch_ev 0 0 0 0 1 8 8 [List.replicate 4 0, List.replicate 4 0] (by omega) (by simp [lensII]) (by simp) (by simp) (by simp) (by simp)
  obtain ⟨k, k1, k2, k3⟩ : ∃ k : Nat, KE ≤ k ∧ KH ≤ k ∧ 1048577 ≤ k := ⟨KE + KH + 1048577, by omega, by omega, by omega⟩
  have EQ := Aside0.mk (hKE k k1)
  have HE := Aside0.mk (hKH k k2)
  have MK := Aside0.mk (mkI k k3)
  clear hKE hKH k1 k2 k3
  have L8 : (List.replicate 8 (0 : Int)).length = 8 := by simp
  have L44 : lensII [List.replicate 4 (0 : Int), List.replicate 4 0] = 8 := by simp [lensII]
  have LL : ∀ l ∈ [List.replicate 4 (0 : Int), List.replicate 4 0], l.length ≤ 1048576 := by simp
  have LR : [List.replicate 4 (0 : Int), List.replicate 4 0].length ≤ 1048576 := by simp
  have NS := Aside0.mk new_spec
  have NI := Aside0.mk new_impl
  revert EQ HE NS NI
  generalize List.replicate 8 (0 : Int) = h8 at *
  generalize [List.replicate 4 (0 : Int), List.replicate 4 0] = R4 at *
  intro EQ HE NS NI
  have l8 := Aside0.mk L8
  have l44 := Aside0.mk L44
  have lL := Aside0.mk LL
  have lR := Aside0.mk LR
  clear L8 L44 LL LR
  go_enter Try.func5, Try.ntmps5
  go_wp2_with fail
  refine (NS.out _).mono ?_
  rintro e w1 ⟨x0, y0, z0, rfl, hs, hb⟩
  have S0 := Aside0.mk hs
  have B0 := Aside0.mk hb
  clear hs hb
  have A1 := Aside0.mk (below_alloc (Below.refl _ w1) (.cells #[.int .i64 0, .int .i64 0, .int .i64 0, .int .i64 0, .slice x0.A x0.n x0.c, .slice y0.A y0.n y0.c, .slice z0.A z0.n z0.c] 37))
  have X0 := Aside0.mk (Bx.new w1 37 #[.int .i64 0, .int .i64 0, .int .i64 0, .int .i64 0, .slice x0.A x0.n x0.c, .slice y0.A y0.n y0.c, .slice z0.A z0.n z0.c])
  go_wp2_with fail
  refine (NI.out _).mono ?_
  rintro e w2 ⟨x1, y1, z1, rfl, hs, hb⟩
  have S0' := Aside0.mk ((S0.out.below A1.out).below hb)
  have S1 := Aside0.mk hs
  have X0' := Aside0.mk (X0.out.below hb)
  have B1 := Aside0.mk (below_step (below_step B0.out A1.out) hb)
  have Z1 := Aside0.mk (show w1.heap.size < (w1.alloc (.cells #[.int .i64 0, .int .i64 0, .int .i64 0, .int .i64 0, .slice x0.A x0.n x0.c, .slice y0.A y0.n y0.c, .slice z0.A z0.n z0.c] 37)).heap.size by simp)
  have Z2 := Aside0.mk hb.size
  clear hs hb S0 X0 A1
  have A2 := Aside0.mk (below_alloc (Below.refl _ w2) (.cells #[.int .i64 0, .int .i64 0, .int .i64 0, .int .i64 0, .slice x1.A x1.n x1.c, .slice y1.A y1.n y1.c, .slice z1.A z1.n z1.c] 37))
  have X1 := Aside0.mk (Bx.new w2 37 #[.int .i64 0, .int .i64 0, .int .i64 0, .int .i64 0, .slice x1.A x1.n x1.c, .slice y1.A y1.n y1.c, .slice z1.A z1.n z1.c])
  obtain ⟨c0, c1, c2, c3, c4, c5, c6⟩ := (X0'.out.below A2.out).cells
  go_wp2_with fail
  clear c0 c1 c2 c3 c4 c5 c6
  refine (eq_call k 0 0 0 0 (S1.out.below A2.out).rk (S0'.out.below A2.out) EQ.out).mono ?_
  rintro e w3 ⟨rfl, hb⟩
  have S0 := Aside0.mk ((S0'.out.below A2.out).below hb)
  have S1' := Aside0.mk ((S1.out.below A2.out).below hb)
  have X0 := Aside0.mk ((X0'.out.below A2.out).below hb)
  have X1' := Aside0.mk (X1.out.below hb)
  have B2 := Aside0.mk (below_step (below_step B1.out A2.out) hb)
  have Z3 := Aside0.mk (show w2.heap.size < (w2.alloc (.cells #[.int .i64 0, .int .i64 0, .int .i64 0, .int .i64 0, .slice x1.A x1.n x1.c, .slice y1.A y1.n y1.c, .slice z1.A z1.n z1.c] 37)).heap.size by simp)
  have Z4 := Aside0.mk hb.size
  clear hb S0' X0' S1 X1 A2
  obtain ⟨c0, c1, c2, c3, c4, c5, c6⟩ := X1'.out.cells
  go_wp2_with fail
  clear c0 c1 c2 c3 c4 c5 c6
  have hlt := Nat.lt_of_lt_of_le Z3.out Z4.out
  obtain ⟨M, hM, hM0⟩ : ∃ M : Int, 1 + ((8 : Nat) : Int) + ((8 : Nat) : Int) + ((8 : Nat) : Int) = M ∧ 0 ≤ M := ⟨_, rfl, by omega⟩
  refine (mark_call k MK 0 0 0 0 1 S1'.out (Nat.le_trans Z2.out (Nat.le_of_lt hlt)) (Nat.le_of_lt hlt) (by omega) (by rw [l8.out, l44.out]; omega) (by rw [l8.out]; omega) (by rw [l8.out]; omega) lR.out lL.out).mono ?_
  rw [l8.out, l44.out, hM]
  have HE' := Aside0.mk (show laws_heldSketch.f k 0 0 0 0 (marksI 1 8) (marksI (1 + ((8 : Nat) : Int)) 8) (marksII (1 + ((8 : Nat) : Int) + ((8 : Nat) : Int)) R4) 1 = some M from by have h9 := HE.out; rw [l44.out, hM] at h9; exact h9)
  have hMd : decide (M < 0) = false := decide_eq_false (by omega)
  clear hM hM0
  rintro e w4 ⟨rfl, hs, hk⟩
  have S0' := Aside0.mk (S0.out.kp hk (.inr (Nat.le_trans (Nat.le_refl _) (Nat.le_of_lt Z1.out))))
  have S1 := Aside0.mk hs
  have X0' := Aside0.mk (X0.out.kp hk (.inl Z1.out))
  have X1 := Aside0.mk (X1'.out.kp hk (.inr (Nat.le_refl _)))
  have B3 := Aside0.mk (below_kp B2.out hk (by have := B0.out.size; have := Z1.out; omega) B2.out.size)
  clear hs hk S0 X0 S1' X1' B2
  obtain ⟨c0, c1, c2, c3, c4, c5, c6⟩ := X1.out.cells
  go_wp2_with fail
  clear c0 c1 c2 c3 c4 c5 c6
  refine (held_call k 0 0 0 0 1 M S1.out.rk HE'.out).mono ?_
  rintro e w5 ⟨rfl, hb⟩
  have S0 := Aside0.mk (S0'.out.below hb)
  have S1' := Aside0.mk (S1.out.below hb)
  have X0 := Aside0.mk (X0'.out.below hb)
  have X1' := Aside0.mk (X1.out.below hb)
  have B4 := Aside0.mk (below_step B3.out hb)
  clear hb S0' S1 X0' X1 B3
  go_wp2_with fail
  refine (NI.out _).mono ?_
  rintro e w6 ⟨x2, y2, z2, rfl, hs, hb⟩
  have S0' := Aside0.mk (S0.out.below hb)
  have S1 := Aside0.mk (S1'.out.below hb)
  have S2 := Aside0.mk hs
  have X0' := Aside0.mk (X0.out.below hb)
  have X1 := Aside0.mk (X1'.out.below hb)
  have B5 := Aside0.mk (below_step B4.out hb)
  clear hs hb S0 S1' X0 X1' B4
  have A6 := Aside0.mk (below_alloc (Below.refl _ w6) (.cells #[.int .i64 0, .int .i64 0, .int .i64 0, .int .i64 0, .slice x2.A x2.n x2.c, .slice y2.A y2.n y2.c, .slice z2.A z2.n z2.c] 37))
  obtain ⟨c0, c1, c2, c3, c4, c5, c6⟩ := (X0'.out.below A6.out).cells
  go_wp2_with fail
  clear c0 c1 c2 c3 c4 c5 c6
  refine (eq_call k 0 0 0 0 (S2.out.below A6.out).rk (S0'.out.below A6.out) EQ.out).mono ?_
  rintro e w7 ⟨rfl, hb⟩
  have S1' := Aside0.mk ((S1.out.below A6.out).below hb)
  have X1' := Aside0.mk ((X1.out.below A6.out).below hb)
  have B6 := Aside0.mk (below_step (below_step B5.out A6.out) hb)
  clear hb S0' S1 S2 X0' X1 A6 B5
  obtain ⟨c0, c1, c2, c3, c4, c5, c6⟩ := X1'.out.cells
  go_wp2_with fail
  clear c0 c1 c2 c3 c4 c5 c6
  refine (held_call k 0 0 0 0 1 M S1'.out.rk HE'.out).mono ?_
  rintro e w8 ⟨rfl, hb⟩
  have B7 := Aside0.mk (below_step B6.out hb)
  clear hb
  go_wp2
  go_ret
  exact ⟨rfl, B7.out⟩

end Go.Proofs.Ytnidahdhlocpnaa.HFnExactSketchNew
