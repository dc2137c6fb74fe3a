-- Written by this session's changed copy of the kit's printer (wip/patch_print.py): not the kit's own print.
import Derived.Test.YtdciagkholijlaaProg
import Derived.Below
import Derived.Deep.Draws
import Derived.Deep.AppendLies
import Derived.Maps.AppendAt
import Derived.OwnWalk
import Derived.Laws.BytesArg
import Derived.Laws.MakeOwn
import Derived.Laws.OwnMore
import Derived.Deep.OwnRows
import Derived.Tactics
import Derived.Lib.ConvBytes
import Derived.Laws.Slices
import Derived.WalkKit
import Derived.KernelRfl
import Derived.RowKit3
import Derived.Deep.LoopGhost
import Derived.Deep.QuietTactic
import Derived.BigQuiet
import Derived.WideLaws
import Derived.Deep.DeepCutAuto
import Derived.Deep.CutBlock
import Derived.Deep.RegionHeld3
import Derived.Laws.Rows
import Derived.Lib.AppendStr
import Derived.ArgAppend
import Derived.Laws.IdiomCopy
import Derived.OrdersHeld
import Derived.Laws.BitsLemmas
import Derived.RowKit
import Derived.RegionTactic
import Derived.BigRegion
import Derived.StillTailTactics
import Derived.Deep.RegionHeld3
import Derived.Deep.RegionHeldLaw
import Derived.Test.YtdciagkholijlaaShelfSort
import Derived.Shelf.SlSortCmp.WholeK
import Derived.Shelf.SlSortCmp.NoneTotal
import Derived.Shelf.SlicesG.Cmp
import Derived.Test.YtdciagkholijlaaWWords
import Derived.Test.YtdciagkholijlaaWLast
import Derived.Test.YtdciagkholijlaaWTab
import Derived.Test.YtdciagkholijlaaWFour
import Derived.Test.YtdciagkholijlaaWQPut
import Derived.Test.YtdciagkholijlaaWApart
import Derived.Test.YtdciagkholijlaaWArr
import Derived.Test.YtdciagkholijlaaWZeros
import Derived.Test.YtdciagkholijlaaWFoot
import Derived.Test.YtdciagkholijlaaWKept
import Derived.Test.YtdciagkholijlaaWShare
import Derived.Test.YtdciagkholijlaaWN
import Derived.Test.YtdciagkholijlaaWFootNe
import Derived.Test.YtdciagkholijlaaWAt
import Derived.Test.YtdciagkholijlaaWEqStruct
import Derived.Test.YtdciagkholijlaaWRepsOne
import Derived.Test.YtdciagkholijlaaWInv
import Derived.Test.YtdciagkholijlaaWInvWords
import Derived.Test.YtdciagkholijlaaWGuard
import Derived.Test.YtdciagkholijlaaWNEv
import Derived.Test.YtdciagkholijlaaWMore
namespace Go.Proofs.Ytdciagkholijlaa.PFnEntries
open Go.RowKit Go.Proofs.YtdciagkholijlaaW.PrintWords Go.Proofs.YtdciagkholijlaaW.PrintLast Go.Proofs.YtdciagkholijlaaW.PrintMore
attribute [local go_sem] max2_int min2_int max_two min_two max_three min_three max_four min_four   -- for this text's walks alone
set_option linter.unusedVariables false
set_option linter.unusedSimpArgs false
abbrev vi (x : Int) : Value := .int .i64 x
theorem mkA {p : Prop} (h : p) : Aside0 p := ⟨h⟩
theorem cz7 {w : World} {g : Nat} {t : TypeId} {v0 v1 v2 v3 v4 v5 v6 : Value} (h : w.heap[g]? = some (.cells #[v0,v1,v2,v3,v4,v5,v6] t (0,0))) : w.cell? ⟨g,0,none⟩ = some v0 ∧ w.cell? ⟨g,1,none⟩ = some v1 ∧ w.cell? ⟨g,2,none⟩ = some v2 ∧ w.cell? ⟨g,3,none⟩ = some v3 ∧ w.cell? ⟨g,4,none⟩ = some v4 ∧ w.cell? ⟨g,5,none⟩ = some v5 ∧ w.cell? ⟨g,6,none⟩ = some v6 := ⟨blk_cell h 0,blk_cell h 1,blk_cell h 2,blk_cell h 3,blk_cell h 4,blk_cell h 5,blk_cell h 6⟩
theorem cz10 {w : World} {g : Nat} {t : TypeId} {v0 v1 v2 v3 v4 v5 v6 v7 v8 v9 : Value} (h : w.heap[g]? = some (.cells #[v0,v1,v2,v3,v4,v5,v6,v7,v8,v9] t (0,0))) : w.cell? ⟨g,0,none⟩ = some v0 ∧ w.cell? ⟨g,1,none⟩ = some v1 ∧ w.cell? ⟨g,2,none⟩ = some v2 ∧ w.cell? ⟨g,3,none⟩ = some v3 ∧ w.cell? ⟨g,4,none⟩ = some v4 ∧ w.cell? ⟨g,5,none⟩ = some v5 ∧ w.cell? ⟨g,6,none⟩ = some v6 ∧ w.cell? ⟨g,7,none⟩ = some v7 ∧ w.cell? ⟨g,8,none⟩ = some v8 ∧ w.cell? ⟨g,9,none⟩ = some v9 := ⟨blk_cell h 0,blk_cell h 1,blk_cell h 2,blk_cell h 3,blk_cell h 4,blk_cell h 5,blk_cell h 6,blk_cell h 7,blk_cell h 8,blk_cell h 9⟩
theorem cz11 {w : World} {g : Nat} {t : TypeId} {v0 v1 v2 v3 v4 v5 v6 v7 v8 v9 v10 : Value} (h : w.heap[g]? = some (.cells #[v0,v1,v2,v3,v4,v5,v6,v7,v8,v9,v10] t (0,0))) : w.cell? ⟨g,0,none⟩ = some v0 ∧ w.cell? ⟨g,1,none⟩ = some v1 ∧ w.cell? ⟨g,2,none⟩ = some v2 ∧ w.cell? ⟨g,3,none⟩ = some v3 ∧ w.cell? ⟨g,4,none⟩ = some v4 ∧ w.cell? ⟨g,5,none⟩ = some v5 ∧ w.cell? ⟨g,6,none⟩ = some v6 ∧ w.cell? ⟨g,7,none⟩ = some v7 ∧ w.cell? ⟨g,8,none⟩ = some v8 ∧ w.cell? ⟨g,9,none⟩ = some v9 ∧ w.cell? ⟨g,10,none⟩ = some v10 := ⟨blk_cell h 0,blk_cell h 1,blk_cell h 2,blk_cell h 3,blk_cell h 4,blk_cell h 5,blk_cell h 6,blk_cell h 7,blk_cell h 8,blk_cell h 9,blk_cell h 10⟩
theorem fz7 {w : World} {g : Nat} {t : TypeId} {cs : Array Value} (h : w.heap[g]? = some (.cells cs t (0,0))) : w.frozen? ⟨g,0,none⟩ = false ∧ w.frozen? ⟨g,1,none⟩ = false ∧ w.frozen? ⟨g,2,none⟩ = false ∧ w.frozen? ⟨g,3,none⟩ = false ∧ w.frozen? ⟨g,4,none⟩ = false ∧ w.frozen? ⟨g,5,none⟩ = false ∧ w.frozen? ⟨g,6,none⟩ = false := ⟨blk_frozen h 0,blk_frozen h 1,blk_frozen h 2,blk_frozen h 3,blk_frozen h 4,blk_frozen h 5,blk_frozen h 6⟩
theorem fz10 {w : World} {g : Nat} {t : TypeId} {cs : Array Value} (h : w.heap[g]? = some (.cells cs t (0,0))) : w.frozen? ⟨g,0,none⟩ = false ∧ w.frozen? ⟨g,1,none⟩ = false ∧ w.frozen? ⟨g,2,none⟩ = false ∧ w.frozen? ⟨g,3,none⟩ = false ∧ w.frozen? ⟨g,4,none⟩ = false ∧ w.frozen? ⟨g,5,none⟩ = false ∧ w.frozen? ⟨g,6,none⟩ = false ∧ w.frozen? ⟨g,7,none⟩ = false ∧ w.frozen? ⟨g,8,none⟩ = false ∧ w.frozen? ⟨g,9,none⟩ = false := ⟨blk_frozen h 0,blk_frozen h 1,blk_frozen h 2,blk_frozen h 3,blk_frozen h 4,blk_frozen h 5,blk_frozen h 6,blk_frozen h 7,blk_frozen h 8,blk_frozen h 9⟩
theorem fz11 {w : World} {g : Nat} {t : TypeId} {cs : Array Value} (h : w.heap[g]? = some (.cells cs t (0,0))) : w.frozen? ⟨g,0,none⟩ = false ∧ w.frozen? ⟨g,1,none⟩ = false ∧ w.frozen? ⟨g,2,none⟩ = false ∧ w.frozen? ⟨g,3,none⟩ = false ∧ w.frozen? ⟨g,4,none⟩ = false ∧ w.frozen? ⟨g,5,none⟩ = false ∧ w.frozen? ⟨g,6,none⟩ = false ∧ w.frozen? ⟨g,7,none⟩ = false ∧ w.frozen? ⟨g,8,none⟩ = false ∧ w.frozen? ⟨g,9,none⟩ = false ∧ w.frozen? ⟨g,10,none⟩ = false := ⟨blk_frozen h 0,blk_frozen h 1,blk_frozen h 2,blk_frozen h 3,blk_frozen h 4,blk_frozen h 5,blk_frozen h 6,blk_frozen h 7,blk_frozen h 8,blk_frozen h 9,blk_frozen h 10⟩
theorem czB {w W : World} {a : Addr} {v : Value} (hb : Below w.heap.size w W) (h : w.cell? a = some v) : W.cell? a = some v := (hb.cell (World.block_lt_of_cell? w _ h)).trans h
theorem czP : (∀ (a : Act) (v : Value),a.put none v = a) ∧ (∀ (a : Act) (d : Tmp) (v : Value),a.put (some d) v = { a with tmps := a.tmps.setIfInBounds d v }) ∧ (∀ (l : List Value) (i : Nat) (a : Value),l.toArray.setIfInBounds i a = (l.set i a).toArray) ∧ (∀ (x a : Value) (l : List Value),(x :: l).set 0 a = a :: l) ∧ (∀ (x a : Value) (l : List Value) (i : Nat),(x :: l).set (i + 1) a = x :: l.set i a) ∧ (∀ n : Int,IntKind.i64.wrap n = Go.RowKit.wrap64 n) ∧ (∀ n : Int,IntKind.i32.wrap n = Go.RowKit.wrap32 n) :=
  ⟨fun _ _ => rfl,fun _ _ _ => rfl,fun _ _ _ => List.setIfInBounds_toArray ..,fun _ _ _ => rfl,fun _ _ _ _ => rfl,i64_w,i32_w⟩



theorem info3 : (Try.prog.info? 3).map (fun i => (i.zero,i.size,i.bytes)) = some (some (vi 0),1,8) := by kernel_rfl
theorem info24 : (Try.prog.info? 24).map (fun i => (i.zero,i.size,i.bytes)) = some (some (.slice none 0 0),1,24) := by kernel_rfl
theorem info70 : (Try.prog.info? 70).map (fun i => (i.zero,i.size,i.bytes)) = some (some (.agg #[(vi 0),(vi 0)]),2,16) := by kernel_rfl
structure S70 where
 f0 : Int
 f1 : Int
def z70 : S70 := ⟨(0 : Int),(0 : Int)⟩
def k70 : Kd S70 := Kd.iso (Kd.pair (Kd.int .i64) (Kd.int .i64)) (fun x : S70 => (x.f0,x.f1))
theorem k70_open {w : World} {x : S70} {cs : List Value} (h : k70.K w x cs) : cs = [vi x.f0,vi x.f1] := by
 obtain ⟨_,_,rfl,rfl,rfl⟩ := h
 exact rfl
theorem k70_openM {w : World} {base : Nat} {ok : Nat → Prop} {x : S70} {cs : List Value} (h : k70.M w base ok x cs) : cs = [vi x.f0,vi x.f1] := by
 obtain ⟨_,_,rfl,rfl,rfl⟩ := h
 exact rfl
theorem k70_mkM (w : World) (base : Nat) (ok : Nat → Prop) (x : S70)  : k70.M w base ok x [vi x.f0,vi x.f1] := ⟨[vi x.f0],[vi x.f1],rfl,rfl,rfl⟩
def rd_T70 (xs : List S70) (i : Int) : S70 := xs.getD i.toNat z70
theorem at_T70 {w : World} {A : Option Addr} {n : Nat} {xs : List S70} (h : Kd.C k70 w A n xs) (i : Int) (h0 : 0 ≤ i) (h1 : i < n) : ∃ ad ,A = some ad ∧ w.cell? (ad.add (i.toNat * 2)) = some (vi (rd_T70 xs i).f0) ∧ w.cell? ⟨(ad.add (i.toNat * 2)).block,(ad.add (i.toNat * 2)).off + 1,none⟩ = some (vi (rd_T70 xs i).f1) := by
 obtain ⟨ad,c,e,_,hK,aa⟩ := Kd.C_get h z70 i h0 h1
 have hc : ∀ j u,c[j]? = some u → w.cell? (ad.add (i.toNat * 2 + j)) = some u := aa
 obtain rfl := k70_open hK
 exact ⟨ad,e,hc 0 _ rfl,by rw [← add_field _ _ 1 (by omega)];exact hc 1 _ rfl⟩

def rd_L3 (xs : List (List Int)) (i : Int) : (List Int) := xs.getD i.toNat ([] : List Int)
theorem at_L3 {w : World} {A : Option Addr} {n : Nat} {xs : List (List Int)} (h : Kd.C (Kd.slice 3 (Kd.int .i64)) w A n xs) (i : Int) (h0 : 0 ≤ i) (h1 : i < n) : ∃ ad A0 c0,A = some ad ∧ w.cell? (ad.add i.toNat) = some (.slice A0 (rd_L3 xs i).length c0) ∧ (rd_L3 xs i).length ≤ c0 ∧ (Kd.int .i64).C w A0 (rd_L3 xs i).length (rd_L3 xs i) := by
 obtain ⟨ad,c,e,_,hK,aa⟩ := Kd.C_get h ([] : List Int) i h0 h1
 have hc : ∀ j u,c[j]? = some u → w.cell? (ad.add (i.toNat * 1 + j)) = some u := aa
 obtain ⟨A0,c0,rfl,l0,g0⟩ := hK
 exact ⟨ad,A0,c0,e,by have hq := hc 0 _ rfl;rwa [Nat.mul_one,Nat.add_zero] at hq,l0,g0⟩

structure Sl where
 A : Option Addr
 n : Nat
 c : Nat
def Rk (w : World) (a b : Nat) (x y z : Sl) (h r : List Int) (R : List (List Int)) : Prop :=
 Kd.R (Kd.int .i64) 3 w a (fun k => k < b) (.slice x.A x.n x.c) h ∧ Kd.R (Kd.int .i64) 3 w a (fun k => k < b) (.slice y.A y.n y.c) r ∧ Kd.N (Kd.slice 3 (Kd.int .i64)) 24 w a (fun k => a ≤ k ∧ k < b) (.slice z.A z.n z.c) R
def Sk (w : World) (a b : Nat) (x y z : Sl) (h r : List Int) (R : List (List Int)) : Prop :=
 Kd.R (Kd.int .i64) 3 w a (fun k => k < b) (.slice x.A x.n x.c) h ∧ Kd.R (Kd.int .i64) 3 w a (fun k => k < b ∧ some k ≠ (Value.slice x.A x.n x.c).ownBlock) (.slice y.A y.n y.c) r ∧
 Kd.S (Kd.slice 3 (Kd.int .i64)) 24 w a (fun k => k < b ∧ some k ≠ (Value.slice x.A x.n x.c).ownBlock ∧ some k ≠ (Value.slice y.A y.n y.c).ownBlock) (.slice z.A z.n z.c) R
section
variable {w w1 w' W : World} {a b a' b' : Nat} {x y z x' y' z' : Sl} {h r h' r' : List Int} {R R' : List (List Int)}
theorem Sk.rk (s : Sk w a b x y z h r R) : Rk w a b x y z h r R :=
 ⟨s.1,Kd.R_mono s.2.1 (fun _ hk => hk.1),Kd.S_N (Kd.S_mono (Kd.S_bound s.2.2) (fun _ hk => ⟨hk.2.1,hk.1.1⟩))⟩
theorem Rk.step (s : Rk w a b x y z h r R) (hm : ∀ k,a ≤ k → k < b → k < w.heap.size → w1.heap[k]? = w.heap[k]?) : Rk w1 a b x y z h r R :=
 ⟨Kd.R_mono (Kd.R_move (Kd.R_bound s.1) (fun k hk => hm k hk.2.1 hk.1 hk.2.2.1)) (fun _ hk => hk.1),Kd.R_mono (Kd.R_move (Kd.R_bound s.2.1) (fun k hk => hm k hk.2.1 hk.1 hk.2.2.1)) (fun _ hk => hk.1),Kd.N_step s.2.2 (fun k hk hl => hm k hk.1 hk.2 hl)⟩
theorem Sk.step (s : Sk w a b x y z h r R) (hm : ∀ k,a ≤ k → k < b → k < w.heap.size → w1.heap[k]? = w.heap[k]?) : Sk w1 a b x y z h r R :=
 ⟨Kd.R_mono (Kd.R_move (Kd.R_bound s.1) (fun k hk => hm k hk.2.1 hk.1 hk.2.2.1)) (fun _ hk => hk.1),Kd.R_mono (Kd.R_move (Kd.R_bound s.2.1) (fun k hk => hm k hk.2.1 hk.1.1 hk.2.2.1)) (fun _ hk => hk.1),Kd.S_mono (Kd.S_move (Kd.S_bound s.2.2) (fun k hk => hm k hk.2.1 hk.1.1 hk.2.2.1)) (fun _ hk => hk.1)⟩
theorem Rk.below (s : Rk w a b x y z h r R) (hb : Below w.heap.size w w1) : Rk w1 a b x y z h r R := s.step (fun k _ _ hl => hb.block k hl)
theorem Sk.below (s : Sk w a b x y z h r R) (hb : Below w.heap.size w w1) : Sk w1 a b x y z h r R := s.step (fun k _ _ hl => hb.block k hl)
structure Kp (w w' : World) (a b : Nat) : Prop where
 os : w'.os = w.os
 tape : w'.tape = w.tape
 output : w'.output = w.output
 kept : Kept w w' (fun k => a ≤ k ∧ k < b)
theorem Kp.refl (w : World) (a b : Nat) : Kp w w a b := ⟨rfl,rfl,rfl,Kept.refl _ _⟩
theorem Kp.trans (h : Kp w w1 a b) (k : Kp w1 w' a b) : Kp w w' a b := ⟨k.os.trans h.os,k.tape.trans h.tape,k.output.trans h.output,h.kept.then_ k.kept (fun _ hk => .inl hk)⟩
theorem Kp.below (h : Kp w w1 a b) (k : Below w1.heap.size w1 w') : Kp w w' a b := ⟨k.os.trans h.os,k.tape.trans h.tape,k.output.trans h.output,h.kept.below k⟩
theorem below_kp {B : Nat} (h : Below B W w) (k : Kp w w1 a b) (hB : B ≤ a) (hS : B ≤ w.heap.size) : Below B W w1 :=
 ⟨k.os.trans h.os,k.tape.trans h.tape,k.output.trans h.output,Nat.le_trans h.size k.kept.1,fun i hi => (k.kept.2 i (Nat.lt_of_lt_of_le hi hS) (fun hs => by omega)).trans (h.block i hi)⟩
theorem Rk.kp (s : Rk w a' b' x y z h r R) (k : Kp w w1 a b) (ha : b ≤ a' ∨ b' ≤ a) : Rk w1 a' b' x y z h r R := s.step (fun i h1 h2 h3 => k.kept.2 i h3 (fun hs => by omega))
theorem Sk.kp (s : Sk w a' b' x y z h r R) (k : Kp w w1 a b) (ha : b ≤ a' ∨ b' ≤ a) : Sk w1 a' b' x y z h r R := s.step (fun i h1 h2 h3 => k.kept.2 i h3 (fun hs => by omega))
theorem Rk.reads (s : Rk w a b x y z h r R) : x.n = h.length ∧ y.n = r.length ∧ z.n = R.length ∧ x.n ≤ x.c ∧ y.n ≤ y.c ∧ z.n ≤ z.c ∧ (Kd.int .i64).C w x.A h.length h ∧ (Kd.int .i64).C w y.A r.length r ∧ (Kd.slice 3 (Kd.int .i64)).C w z.A R.length R := by
 obtain ⟨h1,h2,h3⟩ := Kd.R_reads' s.1
 obtain ⟨h4,h5,h6⟩ := Kd.R_reads' s.2.1
 obtain ⟨h7,h8,h9⟩ := Kd.N_reads' s.2.2
 exact ⟨h1,h4,h7,h2,h5,h8,h3,h6,h9⟩
def Bx (w : World) (g t : Nat) (cs : Array Value) : Prop := w.heap[g]? = some (.cells cs t (0,0))
theorem Bx.lt {g t : Nat} {cs : Array Value} (hb : Bx w g t cs) : g < w.heap.size := blk_lt hb
theorem Bx.below {g t : Nat} {cs : Array Value} (hb : Bx w g t cs) (k : Below w.heap.size w w1) : Bx w1 g t cs := blk_below hb k
theorem Bx.kp {g t : Nat} {cs : Array Value} (hb : Bx w g t cs) (k : Kp w w1 a b) (hg : g < a ∨ b ≤ g) : Bx w1 g t cs := (k.kept.2 g hb.lt (fun hs => by omega)).trans hb
theorem Bx.new (w : World) (t : Nat) (cs : Array Value) : Bx (w.alloc (.cells cs t)) w.heap.size t cs := blk_new w _
theorem Bx.cells {g t : Nat} {v0 v1 v2 v3 v4 v5 v6 : Value} (hb : Bx w g t #[v0,v1,v2,v3,v4,v5,v6]) :
  w.cell? ⟨g,0,none⟩ = some v0 ∧ w.cell? ⟨g,1,none⟩ = some v1 ∧ w.cell? ⟨g,2,none⟩ = some v2 ∧ w.cell? ⟨g,3,none⟩ = some v3 ∧ w.cell? ⟨g,4,none⟩ = some v4 ∧ w.cell? ⟨g,5,none⟩ = some v5 ∧ w.cell? ⟨g,6,none⟩ = some v6 :=
 ⟨blk_cell hb 0,blk_cell hb 1,blk_cell hb 2,blk_cell hb 3,blk_cell hb 4,blk_cell hb 5,blk_cell hb 6⟩
end

structure Rd (w : World) (x y z : Sl) (h r : List Int) (R : List (List Int)) : Prop where
 e4 : x.n = h.length
 e5 : y.n = r.length
 e6 : z.n = R.length
 l4 : h.length ≤ x.c
 l5 : r.length ≤ y.c
 l6 : R.length ≤ z.c
 C4 : (Kd.int .i64).C w x.A h.length h
 C5 : (Kd.int .i64).C w y.A r.length r
 C6 : (Kd.slice 3 (Kd.int .i64)).C w z.A R.length R
section
variable {w w1 w' W : World} {a b a' b' : Nat} {x y z x' y' z' : Sl} {h r h' r' : List Int} {R R' : List (List Int)}
theorem Rd.below (s : Rd w x y z h r R) (hb : Below w.heap.size w w1) : Rd w1 x y z h r R := ⟨s.e4,s.e5,s.e6,s.l4,s.l5,s.l6,Kd.C_below s.C4 hb,Kd.C_below s.C5 hb,Kd.C_below s.C6 hb⟩
theorem Rk.rd (s : Rk w a b x y z h r R) : Rd w x y z h r R := by
 obtain ⟨e1,e2,e3,l1,l2,l3,C1,C2,C3⟩ := s.reads
 exact ⟨e1,e2,e3,by omega,by omega,by omega,C1,C2,C3⟩
theorem Sk.rd (s : Sk w a b x y z h r R) : Rd w x y z h r R := s.rk.rd
end
def By (w : World) (a b : Nat) (v : Sl) (l : List Int) : Prop := Kd.R (Kd.int .u8) 5 w a (fun k => k < b) (.slice v.A v.n v.c) l
structure Bd (w : World) (v : Sl) (l : List Int) : Prop where
 e : v.n = l.length
 le : l.length ≤ v.c
 C : (Kd.int .u8).C w v.A l.length l
section
variable {w w1 : World} {a b a' b' : Nat} {v : Sl} {l : List Int}
theorem By.step (s : By w a b v l) (hm : ∀ k,a ≤ k → k < b → k < w.heap.size → w1.heap[k]? = w.heap[k]?) : By w1 a b v l := Kd.R_mono (Kd.R_move (Kd.R_bound s) (fun k hk => hm k hk.2.1 hk.1 hk.2.2.1)) (fun _ hk => hk.1)
theorem By.below (s : By w a b v l) (hb : Below w.heap.size w w1) : By w1 a b v l := s.step (fun k _ _ hl => hb.block k hl)
theorem By.rd (s : By w a b v l) : Bd w v l := by
 obtain ⟨h1,h2,h3⟩ := Kd.R_reads' s
 exact ⟨h1,by omega,h3⟩
theorem Bd.below (s : Bd w v l) (hb : Below w.heap.size w w1) : Bd w1 v l := ⟨s.e,s.le,Kd.C_below s.C hb⟩
end
def Made (w w' : World) (a b : Nat) : Prop := w.heap.size ≤ a ∧ a ≤ b ∧ b ≤ w'.heap.size

section
variable {w' : World} {base : Nat} {ah af ag : Nat → Prop} {v4 v5 v6 : Value} {h r : List Int} {R : List (List Int)}
theorem Sk.of (h4 : Kd.R (Kd.int .i64) 3 w' base ah v4 h) (h5 : Kd.R (Kd.int .i64) 3 w' base af v5 r) (h6 : Kd.S (Kd.slice 3 (Kd.int .i64)) 24 w' base ag v6 R) (ab : ∀ k,af k → some k ≠ v4.ownBlock) (ae : ∀ k,ag k → some k ≠ v4.ownBlock ∧ some k ≠ v5.ownBlock) :
  ∃ x y z : Sl,v4 = .slice x.A x.n x.c ∧ v5 = .slice y.A y.n y.c ∧ v6 = .slice z.A z.n z.c ∧ Sk w' base w'.heap.size x y z h r R := by
 obtain ⟨A4,c4,rfl⟩ := Kd.R_slice h4
 obtain ⟨A5,c5,rfl⟩ := Kd.R_slice h5
 obtain ⟨A6,c6,rfl⟩ := Kd.S_slice h6
 exact ⟨⟨A4,_,c4⟩,⟨A5,_,c5⟩,⟨A6,_,c6⟩,rfl,rfl,rfl,Kd.R_mono (Kd.R_bound h4) (fun _ hk => hk.2.2.1),Kd.R_mono (Kd.R_bound h5) (fun k hk => ⟨hk.2.2.1,ab k hk.1⟩),Kd.S_mono (Kd.S_bound h6) (fun k hk => ⟨hk.2.2.1,ae k hk.1⟩)⟩
end

section
variable {w w1 w' W : World} {a b a' b' : Nat} {x y z x' y' z' : Sl} {h r h' r' : List Int} {R R' : List (List Int)}
theorem kept_set {g j : Nat} (v : Value) : Kept w (w.setCell ⟨g,j,none⟩ v) (fun k => k = g) :=
 ⟨by simp,fun i hi hn => Below.heap_setCell w ⟨g,j,none⟩ v i hn⟩
theorem Kp.set {g j : Nat} (hg : a ≤ g ∧ g < b) (v : Value) : Kp w (w.setCell ⟨g,j,none⟩ v) a b :=
 ⟨by first | rfl | simp,by first | rfl | simp,by first | rfl | simp,(kept_set v).mono (fun k hk => by subst hk;exact hg)⟩
structure Put (w : World) (a b g : Nat) (l : List Int) : Prop where
 lo : a ≤ g
 hi : g < b
 lt : g < w.heap.size
 rd : ∀ (i : Nat) (hi : i < l.length),w.cell? ⟨g,i,none⟩ = some (vi l[i])
 fz : ∀ i,w.frozen? ⟨g,i,none⟩ = false
theorem row_kept2 {a e : Nat} {ok S : Nat → Prop} {v : Value} {l : List Int} (u : Kd.R (Kd.int .i64) e w a ok v l) (hk : Kept w w' S) (hne : ∀ k,v.ownBlock = some k → ¬ S k) : Kd.R (Kd.int .i64) e w' a ok v l :=
 Kd.R_reok rfl (Kd.R_kept (Kd.R_tight rfl u) hk (fun k hk' => hne k hk'.symm)) (fun k hk' => u.1 k hk')
theorem rowI_put {ok : Nat → Prop} {A : Option Addr} {n c : Nat} {l : List Int} (u : Kd.R (Kd.int .i64) 3 w a ok (.slice A n c) l) (hl : 0 < l.length) (hok : ∀ k,ok k → k < b) :
  ∃ g,A = some ⟨g,0,none⟩ ∧ ok g ∧ Put w a b g l ∧ n = l.length ∧ ∀ (i : Nat) (v : Int),Kd.R (Kd.int .i64) 3 (w.setCell ⟨g,i,none⟩ (vi v)) a ok (.slice A n c) (l.set i v) := by
 obtain ⟨g,cap,hv,hlo,hlt,cells,hc⟩ := Kd.R_form u hl
 injection hv with hA hn hcap
 subst hA hn hcap
 have hokg : ok g := u.1 g (by simp [Value.ownBlock])
 refine ⟨g,rfl,hokg,⟨hlo,hok g hokg,hlt,fun i hi => ?_,fun i => blk_frozen hc i⟩,rfl,fun i v => ?_⟩
 ·obtain ⟨c,hcl,hM,hcell⟩ := Kd.R_getA u (0 : Int) (i : Int) (by omega) (by omega)
  have hM' : c = [Value.int .i64 (l.getD (i : Int).toNat 0)] := hM
  subst hM'
  have h1 := hcell 0 _ rfl
  simp only [Int.toNat_natCast,Nat.add_zero,add_plain] at h1
  have h2 : (Kd.int .i64).sz = 1 := rfl
  rw [h2,Nat.mul_one] at h1
  rw [h1,List.getD_eq_getElem?_getD,List.getElem?_eq_getElem hi]
  rfl
 ·have := Kd.R_putn u (i : Int) v
  rw [Int.toNat_natCast] at this
  exact this
theorem Sk.h_put (s : Sk w a b x y z h r R) (hl : 0 < h.length) : ∃ g,x.A = some ⟨g,0,none⟩ ∧ x.n = h.length ∧ h.length ≤ x.c ∧ Put w a b g h ∧ ∀ (i : Nat) (v : Int),Sk (w.setCell ⟨g,i,none⟩ (vi v)) a b x y z (h.set i v) r R ∧ Kp w (w.setCell ⟨g,i,none⟩ (vi v)) a b := by
 obtain ⟨e1,_,_,l1,_⟩ := s.rk.reads
 obtain ⟨s1,s2,s3⟩ := s
 obtain ⟨g,hA,hok,hp,hn,hset⟩ := rowI_put (b := b) s1 hl (fun k hk => hk)
 have hown : (Value.slice x.A x.n x.c).ownBlock = some g := by rw [hA];simp [Value.ownBlock]
 refine ⟨g,hA,hn,by omega,hp,fun i v => ⟨⟨hset i v,?_,?_⟩,Kp.set ⟨hp.lo,hp.hi⟩ _⟩⟩
 ·exact Kd.R_far (p := ⟨g,i,none⟩) s2 (fun k hk e => hk.2 (by rw [hown,e])) _
 ·exact Kd.S_far (p := ⟨g,i,none⟩) s3 (fun k hk e => hk.2.1 (by rw [hown,e])) _
theorem Sk.r_put (s : Sk w a b x y z h r R) (hl : 0 < r.length) : ∃ g,y.A = some ⟨g,0,none⟩ ∧ y.n = r.length ∧ r.length ≤ y.c ∧ Put w a b g r ∧ ∀ (i : Nat) (v : Int),Sk (w.setCell ⟨g,i,none⟩ (vi v)) a b x y z h (r.set i v) R ∧ Kp w (w.setCell ⟨g,i,none⟩ (vi v)) a b := by
 obtain ⟨_,e1,_,_,l1,_⟩ := s.rk.reads
 obtain ⟨s1,s2,s3⟩ := s
 obtain ⟨g,hA,hok,hp,hn,hset⟩ := rowI_put (b := b) s2 hl (fun k hk => hk.1)
 have hown : (Value.slice y.A y.n y.c).ownBlock = some g := by rw [hA];simp [Value.ownBlock]
 refine ⟨g,hA,hn,by omega,hp,fun i v => ⟨⟨?_,hset i v,?_⟩,Kp.set ⟨hp.lo,hp.hi⟩ _⟩⟩
 ·exact row_kept2 s1 (kept_set _) (fun k hk e => by subst e;exact hok.2 hk.symm)
 ·exact Kd.S_far (p := ⟨g,i,none⟩) s3 (fun k hk e => hk.2.2 (by rw [hown,e])) _
theorem Sk.row_put (s : Sk w a b x y z h r R) (j : Nat) (hj : j < R.length) (hl : 0 < R[j].length) : ∃ gz p c,z.A = some ⟨gz,0,none⟩ ∧ z.n = R.length ∧ R.length ≤ z.c ∧ w.cell? ⟨gz,j,none⟩ = some (.slice (some ⟨p,0,none⟩) R[j].length c) ∧ R[j].length ≤ c ∧ Put w a b p R[j] ∧
  ∀ (i : Nat) (v : Int),Sk (w.setCell ⟨p,i,none⟩ (vi v)) a b x y z h r (R.set j (R[j].set i v)) ∧ Kp w (w.setCell ⟨p,i,none⟩ (vi v)) a b := by
 obtain ⟨_,_,e1,_,_,l1,_⟩ := s.rk.reads
 obtain ⟨s1,s2,s3⟩ := s
 obtain ⟨gz,cap,hv,hbg,hgs,_⟩ := Kd.S_form s3 (by omega)
 injection hv with hA hn hc
 have S2 := s3
 rw [hA] at S2
 obtain ⟨oki,c,ai,hM,hcell,hoki,hH⟩ := Kd.S_lend S2 ([] : List Int) (j : Int) (by omega) (by omega)
 obtain ⟨v,rfl,hRv⟩ := hM
 have hget : R.getD (j : Int).toNat [] = R[j] := by
  rw [Int.toNat_natCast,List.getD_eq_getElem?_getD,List.getElem?_eq_getElem hj]
  rfl
 rw [hget] at hRv
 have aa := hcell 0 v rfl
 simp only [Int.toNat_natCast,Kd.slice,Nat.mul_one,Nat.add_zero] at aa
 have hle := Kd.R_reads hRv
 obtain ⟨A1,c1,rfl,hle,_⟩ := hle
 obtain ⟨p,hAp,hokp,hp,_,hset⟩ := rowI_put (b := b) hRv hl (fun k hk => (hoki k hk).1.1)
 subst hAp
 refine ⟨gz,p,c1,hA,hn,by omega,aa,hle,hp,fun i v => ⟨⟨?_,?_,?_⟩,Kp.set ⟨hp.lo,hp.hi⟩ _⟩⟩
 ·exact row_kept2 s1 (kept_set _) (fun k hk e => by subst e;exact (hoki _ hokp).1.2.1 hk.symm)
 ·exact row_kept2 s2 (kept_set _) (fun k hk e => by subst e;exact (hoki _ hokp).1.2.2 hk.symm)
 ·have h1 := Kd.H_kept hH (kept_set (g := p) (j := i) (vi v)) (fun q hq hn hs => by subst hs;exact hn hokp)
  have h2 := Kd.H_back h1 (x' := R[j].set i v) (okp := oki) ⟨_,rfl,hset i v⟩ (fun _ hq => hq)
  rw [Int.toNat_natCast] at h2
  rw [hA]
  exact h2
end

section
variable {w w1 w' W : World} {a b a' b' : Nat} {x y z : Sl} {h r : List Int} {R : List (List Int)}
theorem Sk.named (s : Sk w a b x y z h r R) (h1 : 0 < h.length) (h2 : 0 < r.length) (h3 : 0 < R.length) : ∃ gx cx gy cy gz cz,x = ⟨some ⟨gx,0,none⟩,h.length,cx⟩ ∧ y = ⟨some ⟨gy,0,none⟩,r.length,cy⟩ ∧ z = ⟨some ⟨gz,0,none⟩,R.length,cz⟩ := by
 obtain ⟨gx,e1,e2,_⟩ := s.h_put h1
 obtain ⟨gy,e3,e4,_⟩ := s.r_put h2
 obtain ⟨gz,cap,hv,_⟩ := Kd.S_form s.2.2 h3
 injection hv with e5 e6 e7
 refine ⟨gx,x.c,gy,y.c,gz,z.c,?_,?_,?_⟩
 ·rw [← e1,← e2]
 ·rw [← e3,← e4]
 ·rw [← e5,← e6]
theorem Sk.hN {g n c : Nat} (s : Sk w a b ⟨some ⟨g,0,none⟩,n,c⟩ y z h r R) (hl : 0 < h.length) : Put w a b g h ∧ ∀ (i : Nat) (v : Int),Sk (w.setCell ⟨g,i,none⟩ (vi v)) a b ⟨some ⟨g,0,none⟩,n,c⟩ y z (h.set i v) r R ∧ Kp w (w.setCell ⟨g,i,none⟩ (vi v)) a b := by
 obtain ⟨g',e,_,_,p,put⟩ := s.h_put hl
 injection e with e
 injection e with e
 subst e
 exact ⟨p,put⟩
theorem Sk.rN {g n c : Nat} (s : Sk w a b x ⟨some ⟨g,0,none⟩,n,c⟩ z h r R) (hl : 0 < r.length) : Put w a b g r ∧ ∀ (i : Nat) (v : Int),Sk (w.setCell ⟨g,i,none⟩ (vi v)) a b x ⟨some ⟨g,0,none⟩,n,c⟩ z h (r.set i v) R ∧ Kp w (w.setCell ⟨g,i,none⟩ (vi v)) a b := by
 obtain ⟨g',e,_,_,p,put⟩ := s.r_put hl
 injection e with e
 injection e with e
 subst e
 exact ⟨p,put⟩
theorem Sk.rowN {g n c : Nat} (s : Sk w a b x y ⟨some ⟨g,0,none⟩,n,c⟩ h r R) (j : Nat) (hj : j < R.length) (hl : 0 < R[j].length) : ∃ p cp,w.cell? ⟨g,j,none⟩ = some (.slice (some ⟨p,0,none⟩) R[j].length cp) ∧ Put w a b p R[j] ∧
  ∀ (i : Nat) (v : Int),Sk (w.setCell ⟨p,i,none⟩ (vi v)) a b x y ⟨some ⟨g,0,none⟩,n,c⟩ h r (R.set j (R[j].set i v)) ∧ Kp w (w.setCell ⟨p,i,none⟩ (vi v)) a b := by
 obtain ⟨g',p,cp,e,_,_,hc,_,P,put⟩ := s.row_put j hj hl
 injection e with e
 injection e with e
 subst e
 exact ⟨p,cp,hc,P,put⟩
end
def mix2 {α : Type} (zs xs : List α) (n : Nat) : List α := zs.take n ++ xs.drop n
section
variable {α : Type} {zs xs : List α}
theorem mix2_zero (zs xs : List α) : mix2 zs xs 0 = xs := by simp [mix2]
theorem mix2_all (hl : zs.length = xs.length) {n : Nat} (hn : xs.length ≤ n) : mix2 zs xs n = zs := by
 unfold mix2
 rw [List.take_of_length_le (by omega),List.drop_of_length_le hn,List.append_nil]
theorem mix2_length (hl : zs.length = xs.length) (n : Nat) : (mix2 zs xs n).length = xs.length := by
 unfold mix2
 rw [List.length_append,List.length_take,List.length_drop]
 omega
theorem mix2_get (hl : zs.length = xs.length) (n : Nat) (hn : n < xs.length) : (mix2 zs xs n)[n]'(by rw [mix2_length hl];exact hn) = xs[n] := by
 unfold mix2
 rw [List.getElem_append_right (by rw [List.length_take];omega)]
 simp only [List.length_take,List.getElem_drop]
 congr 1
 omega
theorem mix2_set (hl : zs.length = xs.length) (n : Nat) (hn : n < xs.length) : (mix2 zs xs n).set n (zs[n]'(by omega)) = mix2 zs xs (n + 1) := by
 have hlt : (zs.take n).length = n := by rw [List.length_take];omega
 unfold mix2
 rw [List.set_append_right _ _ (by omega),hlt,Nat.sub_self,List.drop_eq_getElem_cons hn,List.set_cons_zero,List.take_succ_eq_append_getElem (by omega),List.append_assoc]
 rfl
end
theorem Bx.cellsA {w : World} {g t : Nat} {v0 v1 v2 v3 v4 v5 v6 : Value} (hb : Bx w g t #[v0,v1,v2,v3,v4,v5,v6]) :
  (∀ o,(w.alloc o).cell? ⟨g,0,none⟩ = some v0) ∧ (∀ o,(w.alloc o).cell? ⟨g,1,none⟩ = some v1) ∧ (∀ o,(w.alloc o).cell? ⟨g,2,none⟩ = some v2) ∧ (∀ o,(w.alloc o).cell? ⟨g,3,none⟩ = some v3) ∧ (∀ o,(w.alloc o).cell? ⟨g,4,none⟩ = some v4) ∧ (∀ o,(w.alloc o).cell? ⟨g,5,none⟩ = some v5) ∧ (∀ o,(w.alloc o).cell? ⟨g,6,none⟩ = some v6) :=
 ⟨fun o => (hb.below (below_alloc (Below.refl _ _) o)).cells.1,fun o => (hb.below (below_alloc (Below.refl _ _) o)).cells.2.1,fun o => (hb.below (below_alloc (Below.refl _ _) o)).cells.2.2.1,fun o => (hb.below (below_alloc (Below.refl _ _) o)).cells.2.2.2.1,fun o => (hb.below (below_alloc (Below.refl _ _) o)).cells.2.2.2.2.1,fun o => (hb.below (below_alloc (Below.refl _ _) o)).cells.2.2.2.2.2.1,fun o => (hb.below (below_alloc (Below.refl _ _) o)).cells.2.2.2.2.2.2⟩
theorem Bx.fz {w : World} {g t : Nat} {cs : Array Value} (hb : Bx w g t cs) (i : Nat) : w.frozen? ⟨g,i,none⟩ = false := blk_frozen hb i
theorem Put.at_ {w : World} {a b g : Nat} {l : List Int} (p : Put w a b g l) {i : Nat} (hi : i < l.length) : w.cell? ⟨g,i,none⟩ = some (vi (l.getD i 0)) := by
 rw [p.rd i hi,List.getD_eq_getElem?_getD,List.getElem?_eq_getElem hi]
 rfl
theorem mix2_getD {α : Type} {zs xs : List α} (hl : zs.length = xs.length) {n : Nat} (hn : n < xs.length) (d : α) : (mix2 zs xs n).getD n d = xs.getD n d := by
 have h1 : n < (mix2 zs xs n).length := by rw [mix2_length hl];exact hn
 rw [List.getD_eq_getElem?_getD,List.getD_eq_getElem?_getD,List.getElem?_eq_getElem h1,List.getElem?_eq_getElem hn,mix2_get hl n hn]
theorem mix2_setD {α : Type} {zs xs : List α} (hl : zs.length = xs.length) {n : Nat} (hn : n < xs.length) (d : α) : (mix2 zs xs n).set n (zs.getD n d) = mix2 zs xs (n + 1) := by
 have e : zs.getD n d = zs[n]'(by omega) := by
  rw [List.getD_eq_getElem?_getD,List.getElem?_eq_getElem (by omega)]
  rfl
 rw [e,mix2_set hl n hn]
theorem rows_at {w : World} {A : Option Addr} {n : Nat} {xs : List (List Int)} (h : (Kd.slice 3 (Kd.int .i64)).C w A n xs) (i : Nat) (hi : i < n) : ∃ ad A0 c0,A = some ad ∧ w.cell? (ad.add i) = some (.slice A0 (xs.getD i []).length c0) ∧ (Kd.int .i64).C w A0 (xs.getD i []).length (xs.getD i []) := by
 obtain ⟨ad,c,e,_,hK,hc⟩ := Kd.C_get h ([] : List Int) (i : Int) (by omega) (by omega)
 obtain ⟨A0,c0,rfl,_,hC⟩ := hK
 have h1 := hc 0 _ rfl
 have hs : (Kd.slice 3 (Kd.int .i64)).sz = 1 := rfl
 rw [Int.toNat_natCast] at h1 hC
 rw [hs,Nat.mul_one,Nat.add_zero] at h1
 exact ⟨ad,A0,c0,e,h1,hC⟩
theorem ints_at {w : World} {A : Option Addr} {n : Nat} {xs : List Int} (h : (Kd.int .i64).C w A n xs) (i : Nat) (hi : i < n) : ∃ ad,A = some ad ∧ w.cell? (ad.add i) = some (vi (xs.getD i 0)) := by
 obtain ⟨ad,e,hc⟩ := Kd.at_int h (i : Int) (by omega) (by omega)
 rw [Int.toNat_natCast] at hc
 refine ⟨ad,e,hc.trans ?_⟩
 unfold rd
 rw [Int.toNat_natCast]
theorem set_same {α : Type} {xs : List α} {i : Nat} (hi : i < xs.length) (d : α) : xs.set i (xs.getD i d) = xs := by
 rw [List.getD_eq_getElem?_getD,List.getElem?_eq_getElem hi]
 exact List.set_getElem_self hi
structure Su where
 c : Int
 s : Int
 mn : Int
 mx : Int
 h : List Int
 r : List Int
 p : List Int
 q : List Int
def sadd (a b : Int) : Int := if a + b > 1000000000 then 1000000000 else a + b
def lo2 (a b : Int) : Int := if a < b then a else b
def hi2 (a b : Int) : Int := if a > b then a else b
def upd (l : List Int) (i : Nat) (f : Int → Int) : List Int := l.set i (f (l.getD i 0))
def LOk (xs : List Int) (n : Nat) (most : Int) (zero : Prop) : Prop := xs.length = n ∧ ∀ x ∈ xs,(0 ≤ x ∧ x ≤ most) ∧ (zero → x = 0)
structure Su.Ok (u : Su) : Prop where
 hc : 0 ≤ u.c ∧ u.c ≤ 1000000000
 hs : 0 ≤ u.s ∧ u.s ≤ 1000000000
 hmn : 0 ≤ u.mn ∧ u.mn ≤ 1000000
 hmx : 0 ≤ u.mx ∧ u.mx ≤ 1000000
 hle : u.mn ≤ u.mx
 hz : u.c = 0 → u.s = 0 ∧ u.mx = 0
 hh : LOk u.h 8 1000000000 (u.c = 0)
 hr : LOk u.r 8 17 (u.c = 0)
 hp : LOk u.p 4 1000000000 (u.c = 0)
 hq : LOk u.q 4 1000000000 (u.c = 0)
theorem upd_length (l : List Int) (i : Nat) (f : Int → Int) : (upd l i f).length = l.length := by simp [upd]
theorem upd_get (l : List Int) (i : Nat) (f : Int → Int) (j : Nat) (hj : j < l.length) : (upd l i f)[j]'(by rw [upd_length];exact hj) = if i = j then f l[j] else l[j] := by
 unfold upd
 rw [List.getElem_set]
 by_cases e : i = j
 ·subst e
  rw [if_pos rfl,if_pos rfl,List.getD_eq_getElem?_getD,List.getElem?_eq_getElem hj]
  rfl
 ·rw [if_neg e,if_neg e]
theorem LOk.upd {xs : List Int} {n : Nat} {most : Int} {z z' : Prop} (h : LOk xs n most z) (i : Nat) (f : Int → Int) (hf : ∀ x,0 ≤ x → x ≤ most → 0 ≤ f x ∧ f x ≤ most) (hz : ¬ z') : LOk (upd xs i f) n most z' := by
 refine ⟨by rw [upd_length];exact h.1,fun x hx => ?_⟩
 obtain ⟨j,hj,rfl⟩ := List.getElem_of_mem hx
 have hj' : j < xs.length := by rw [upd_length] at hj;exact hj
 have hb := (h.2 _ (List.getElem_mem hj')).1
 rw [upd_get _ _ _ _ hj']
 refine ⟨?_,fun h => absurd h hz⟩
 split
 ·exact hf _ hb.1 hb.2
 ·exact hb
theorem LOk.zip {xs ys : List Int} {n : Nat} {most : Int} {z1 z2 z' : Prop} (h : LOk xs n most z1) (k : LOk ys n most z2) (f : Int → Int → Int) (hf : ∀ x y,0 ≤ x → x ≤ most → 0 ≤ y → y ≤ most → 0 ≤ f x y ∧ f x y ≤ most) (hz : z' → z1 ∧ z2) (h0 : f 0 0 = 0) : LOk (List.zipWith f xs ys) n most z' := by
 refine ⟨by rw [List.length_zipWith,h.1,k.1,Nat.min_self],fun x hx => ?_⟩
 obtain ⟨j,hj,rfl⟩ := List.getElem_of_mem hx
 rw [List.length_zipWith] at hj
 rw [List.getElem_zipWith]
 have h1 := h.2 _ (List.getElem_mem (show j < xs.length by omega))
 have h2 := k.2 _ (List.getElem_mem (show j < ys.length by omega))
 refine ⟨hf _ _ h1.1.1 h1.1.2 h2.1.1 h2.1.2,fun hz' => ?_⟩
 rw [h1.2 (hz hz').1,h2.2 (hz hz').2,h0]
theorem sadd_range {a b : Int} (ha : 0 ≤ a) (hb : 0 ≤ b) : 0 ≤ sadd a b ∧ sadd a b ≤ 1000000000 := by unfold sadd;split <;> omega
theorem sadd_comm (a b : Int) : sadd a b = sadd b a := by unfold sadd;rw [Int.add_comm]
theorem hi2_comm (a b : Int) : hi2 a b = hi2 b a := by unfold hi2;split <;> split <;> omega
theorem zip_comm (f : Int → Int → Int) (hf : ∀ x y,f x y = f y x) (xs ys : List Int) : List.zipWith f xs ys = List.zipWith f ys xs := by
 apply List.ext_getElem
 ·simp [Nat.min_comm]
 ·intro i h1 h2
  simp only [List.getElem_zipWith]
  exact hf _ _
def Su.new : Su := ⟨0,0,0,0,List.replicate 8 0,List.replicate 8 0,List.replicate 4 0,List.replicate 4 0⟩
theorem LOk.zeros (n : Nat) (most : Int) (z : Prop) (hm : 0 ≤ most) : LOk (List.replicate n 0) n most z := ⟨by simp,fun x hx => by
 rw [List.mem_replicate] at hx
 rw [hx.2]
 exact ⟨⟨Int.le_refl _,hm⟩,fun _ => rfl⟩⟩
theorem Su.new_ok : Su.new.Ok := ⟨by decide,by decide,by decide,by decide,by decide,fun _ => ⟨rfl,rfl⟩,.zeros _ _ _ (by omega),.zeros _ _ _ (by omega),.zeros _ _ _ (by omega),.zeros _ _ _ (by omega)⟩
section
variable (bk mk : Int → Nat) (rk : Int → Int)
def Su.ins (u : Su) (v : Int) : Su :=
 ⟨sadd u.c 1,sadd u.s v,if u.c = 0 then v else lo2 u.mn v,hi2 u.mx v,upd u.h (bk v) (sadd · 1),upd u.r (mk v % 8) (hi2 · (rk v)),upd u.p (mk v % 4) (sadd · 1),upd u.q ((mk v + 1) % 4) (sadd · 1)⟩
theorem Su.ins_ok {u : Su} (h : u.Ok) {v : Int} (hv : 0 ≤ v ∧ v ≤ 1000000) (hrk : 0 ≤ rk v ∧ rk v ≤ 17) : (u.ins bk mk rk v).Ok := by
 obtain ⟨hc,hs,hmn,hmx,hle,hz,hh,hr,hp,hq⟩ := h
 have hne : ¬ (sadd u.c 1 = 0) := by unfold sadd;split <;> omega
 refine ⟨sadd_range (by omega) (by omega),sadd_range (by omega) (by omega),?_,?_,?_,fun h => absurd h hne,hh.upd (bk v) (sadd · 1) (fun x h0 h1 => sadd_range h0 (by omega)) hne,hr.upd (mk v % 8) (hi2 · (rk v)) (fun x h0 h1 => by simp only [hi2];split <;> omega) hne,hp.upd (mk v % 4) (sadd · 1) (fun x h0 h1 => sadd_range h0 (by omega)) hne,hq.upd ((mk v + 1) % 4) (sadd · 1) (fun x h0 h1 => sadd_range h0 (by omega)) hne⟩
 ·simp only [Su.ins,lo2];repeat' split <;> omega
 ·simp only [Su.ins,hi2];split <;> omega
 ·simp only [Su.ins,lo2,hi2];repeat' split <;> omega
def Su.mrg (a b : Su) : Su :=
 ⟨sadd a.c b.c,sadd a.s b.s,if a.c = 0 then b.mn else if b.c = 0 then a.mn else lo2 a.mn b.mn,hi2 a.mx b.mx,List.zipWith sadd a.h b.h,List.zipWith hi2 a.r b.r,List.zipWith sadd a.p b.p,List.zipWith sadd a.q b.q⟩
theorem Su.mrg_ok {a b : Su} (ha : a.Ok) (hb : b.Ok) : (a.mrg b).Ok := by
 obtain ⟨hc,hs,hmn,hmx,hle,hz,hh,hr,hp,hq⟩ := ha
 obtain ⟨hc',hs',hmn',hmx',hle',hz',hh',hr',hp',hq'⟩ := hb
 have hne : sadd a.c b.c = 0 → a.c = 0 ∧ b.c = 0 := by unfold sadd;split <;> omega
 refine ⟨sadd_range (by omega) (by omega),sadd_range (by omega) (by omega),?_,?_,?_,fun h => ?_,hh.zip hh' _ (fun x y h0 _ h1 _ => sadd_range h0 h1) hne rfl,hr.zip hr' _ (fun x y h0 h1 h2 h3 => ?_) hne rfl,hp.zip hp' _ (fun x y h0 _ h1 _ => sadd_range h0 h1) hne rfl,hq.zip hq' _ (fun x y h0 _ h1 _ => sadd_range h0 h1) hne rfl⟩
 ·simp only [Su.mrg,lo2];repeat' split <;> omega
 ·simp only [Su.mrg,hi2];split <;> omega
 ·by_cases e1 : a.c = 0 <;> by_cases e2 : b.c = 0 <;> simp only [Su.mrg,lo2,hi2,e1,e2,if_true,if_false] <;> (try have := hz e1) <;> (try have := hz' e2) <;> repeat' split <;> omega
 ·obtain ⟨e1,e2⟩ := hne h
  have := hz e1
  have := hz' e2
  simp only [Su.mrg,sadd,hi2]
  constructor <;> split <;> omega
 ·simp only [hi2];split <;> omega
theorem Su.ext {a b : Su} (h1 : a.c = b.c) (h2 : a.s = b.s) (h3 : a.mn = b.mn) (h4 : a.mx = b.mx) (h5 : a.h = b.h) (h6 : a.r = b.r) (h7 : a.p = b.p) (h8 : a.q = b.q) : a = b := by
 cases a;cases b
 simp only at h1 h2 h3 h4 h5 h6 h7 h8
 subst h1 h2 h3 h4 h5 h6 h7 h8
 rfl
theorem Su.mn0 {a : Su} (ha : a.Ok) (h : a.c = 0) : a.mn = 0 := by have := ha.hz h;have := ha.hmn;have := ha.hle;omega
theorem Su.mrg_comm {a b : Su} (ha : a.Ok) (hb : b.Ok) : a.mrg b = b.mrg a := by
 refine Su.ext (sadd_comm _ _) (sadd_comm _ _) ?_ (hi2_comm _ _) (zip_comm _ sadd_comm _ _) (zip_comm _ hi2_comm _ _) (zip_comm _ sadd_comm _ _) (zip_comm _ sadd_comm _ _)
 have m1 := Su.mn0 ha
 have m2 := Su.mn0 hb
 by_cases e1 : a.c = 0 <;> by_cases e2 : b.c = 0 <;> simp only [Su.mrg,lo2,e1,e2,if_true,if_false]
 ·rw [m1 e1,m2 e2]
 ·repeat' split <;> omega
def Su.insO (u : Su) (v : Int) : Su := if 0 ≤ v ∧ v ≤ 1000000 then u.ins bk mk rk v else u
def Su.of (l : List Int) : Su := l.foldl (Su.insO bk mk rk) Su.new
variable (hrk : ∀ v,0 ≤ rk v ∧ rk v ≤ 17)
include hrk
theorem Su.insO_ok {u : Su} (h : u.Ok) (v : Int) : (u.insO bk mk rk v).Ok := by
 unfold Su.insO
 split
 ·exact Su.ins_ok bk mk rk h (by assumption) (hrk v)
 ·exact h
theorem Su.fold_ok (l : List Int) : ∀ u : Su,u.Ok → (l.foldl (Su.insO bk mk rk) u).Ok := by
 induction l with
 | nil => intro u h;exact h
 | cons x l ih => intro u h;exact ih _ (Su.insO_ok bk mk rk hrk h x)
theorem Su.of_ok (l : List Int) : (Su.of bk mk rk l).Ok := Su.fold_ok bk mk rk hrk l _ Su.new_ok
end

structure MInv (w wr : World) (a b gb go g6 : Nat) (x y z : Sl) (BB B6 : Array Value) (h r : List Int) (R : List (List Int)) : Prop where
 S : Sk wr a b x y z h r R
 B : Bx wr gb 27 BB
 O : Bx wr go 27 #[vi 0,vi 0,vi 0,vi 0,.slice none 0 0,.slice none 0 0,.slice none 0 0]
 X : Bx wr g6 27 B6
 L : Below w.heap.size w wr
 o1 : gb < a
 o2 : go < a
 o3 : b ≤ g6
 o4 : w.heap.size ≤ a
section
variable {w wr w' : World} {a b gb go g6 : Nat} {x y z : Sl} {BB B6 : Array Value} {h r : List Int} {R : List (List Int)}
theorem MInv.below (m : MInv w wr a b gb go g6 x y z BB B6 h r R) (hb : Below wr.heap.size wr w') : MInv w w' a b gb go g6 x y z BB B6 h r R :=
 ⟨m.S.below hb,m.B.below hb,m.O.below hb,m.X.below hb,below_step m.L hb,m.o1,m.o2,m.o3,m.o4⟩
theorem MInv.kp (m : MInv w wr a b gb go g6 x y z BB B6 h r R) (k : Kp wr w' a b) {h1 r1 : List Int} {R1 : List (List Int)} (s : Sk w' a b x y z h1 r1 R1) : MInv w w' a b gb go g6 x y z BB B6 h1 r1 R1 :=
 ⟨s,m.B.kp k (.inl m.o1),m.O.kp k (.inl m.o2),m.X.kp k (.inr m.o3),below_kp m.L k m.o4 m.L.size,m.o1,m.o2,m.o3,m.o4⟩
theorem MInv.ne6 (m : MInv w wr a b gb go g6 x y z BB B6 h r R) {g : Nat} {l : List Int} (p : Put wr a b g l) : g6 ≠ g ∧ g ≠ g6 ∧ gb ≠ g ∧ g ≠ gb := by
 have := m.o1
 have := m.o3
 have := p.lo
 have := p.hi
 omega
end
theorem Bx.fill {w : World} {g t : Nat} {a0 a1 a2 a3 a4 a5 a6 : Value} (hb : Bx w g t #[a0,a1,a2,a3,a4,a5,a6]) (v0 v1 v2 v3 v4 v5 v6 : Value) :
  Bx (((((((w.setCell ⟨g,0,none⟩ v0).setCell ⟨g,1,none⟩ v1).setCell ⟨g,2,none⟩ v2).setCell ⟨g,3,none⟩ v3).setCell ⟨g,4,none⟩ v4).setCell ⟨g,5,none⟩ v5).setCell ⟨g,6,none⟩ v6) g t #[v0,v1,v2,v3,v4,v5,v6] ∧
  Kp w (((((((w.setCell ⟨g,0,none⟩ v0).setCell ⟨g,1,none⟩ v1).setCell ⟨g,2,none⟩ v2).setCell ⟨g,3,none⟩ v3).setCell ⟨g,4,none⟩ v4).setCell ⟨g,5,none⟩ v5).setCell ⟨g,6,none⟩ v6) g (g + 1) := by
 have hg : g ≤ g ∧ g < g + 1 := ⟨Nat.le_refl _,Nat.lt_succ_self _⟩
 refine ⟨?_,((((((Kp.set hg v0).trans (Kp.set hg v1)).trans (Kp.set hg v2)).trans (Kp.set hg v3)).trans (Kp.set hg v4)).trans (Kp.set hg v5)).trans (Kp.set hg v6)⟩
 have h0 : Bx (w.setCell ⟨g,0,none⟩ v0) g t #[v0,a1,a2,a3,a4,a5,a6] := blk_put hb 0 _ rfl
 have h1 : Bx _ g t #[v0,v1,a2,a3,a4,a5,a6] := blk_put h0 1 v1 rfl
 have h2 : Bx _ g t #[v0,v1,v2,a3,a4,a5,a6] := blk_put h1 2 v2 rfl
 have h3 : Bx _ g t #[v0,v1,v2,v3,a4,a5,a6] := blk_put h2 3 v3 rfl
 have h4 : Bx _ g t #[v0,v1,v2,v3,v4,a5,a6] := blk_put h3 4 v4 rfl
 have h5 : Bx _ g t #[v0,v1,v2,v3,v4,v5,a6] := blk_put h4 5 v5 rfl
 exact blk_put h5 6 v6 rfl
def SkOut (w : World) (c s lo hi : Int) (h r : List Int) (R : List (List Int)) (t : Bool) (e : Ending) (w' : World) : Prop :=
 ∃ (x y z : Sl) (a b : Nat),e = .returned (.tuple #[.agg #[vi c,vi s,vi lo,vi hi,.slice x.A x.n x.c,.slice y.A y.n y.c,.slice z.A z.n z.c],.bool t]) ∧ Sk w' a b x y z h r R ∧ (w.heap.size ≤ a ∧ a ≤ b ∧ b ≤ w'.heap.size) ∧ Below w.heap.size w w'
theorem MInv.out {w wr : World} {a b gb go g6 : Nat} {x y z : Sl} {BB B6 : Array Value} {h r : List Int} {R : List (List Int)} (m : MInv w wr a b gb go g6 x y z BB B6 h r R) (hgo : w.heap.size ≤ go) (hab : a ≤ b) (c s lo hi : Int) (t : Bool) :
  SkOut w c s lo hi h r R t (.returned (.tuple #[.agg #[vi c,vi s,vi lo,vi hi,.slice x.A x.n x.c,.slice y.A y.n y.c,.slice z.A z.n z.c],.bool t]))
   (((((((wr.setCell ⟨go,0,none⟩ (vi c)).setCell ⟨go,1,none⟩ (vi s)).setCell ⟨go,2,none⟩ (vi lo)).setCell ⟨go,3,none⟩ (vi hi)).setCell ⟨go,4,none⟩ (.slice x.A x.n x.c)).setCell ⟨go,5,none⟩ (.slice y.A y.n y.c)).setCell ⟨go,6,none⟩ (.slice z.A z.n z.c)) := by
 have k := (m.O.fill (vi c) (vi s) (vi lo) (vi hi) (.slice x.A x.n x.c) (.slice y.A y.n y.c) (.slice z.A z.n z.c)).2
 have o2 := m.o2
 refine ⟨x,y,z,a,b,rfl,m.S.kp k (.inl (by omega)),⟨m.o4,hab,Nat.le_trans ?_ k.kept.1⟩,below_kp m.L k hgo m.L.size⟩
 have := m.o3
 have := m.X.lt
 omega
theorem Sk.kd {w : World} {a b base : Nat} {x y z : Sl} {h r : List Int} {R : List (List Int)} (s : Sk w a b x y z h r R) (hb : base ≤ a) :
  Kd.R (Kd.int .i64) 3 w base (fun k => some k ≠ (Value.slice y.A y.n y.c).ownBlock) (.slice x.A x.n x.c) h ∧ Kd.R (Kd.int .i64) 3 w base (fun k => some k ≠ (Value.slice x.A x.n x.c).ownBlock) (.slice y.A y.n y.c) r ∧
  Kd.S (Kd.slice 3 (Kd.int .i64)) 24 w base (fun k => some k ≠ (Value.slice x.A x.n x.c).ownBlock ∧ some k ≠ (Value.slice y.A y.n y.c).ownBlock) (.slice z.A z.n z.c) R := by
 obtain ⟨s1,s2,s3⟩ := s
 exact ⟨Kd.R_lower (Kd.R_reok rfl s1 (fun k hk e => (s2.1 k e.symm).2 hk.symm)) hb,Kd.R_lower (Kd.R_mono s2 (fun _ hk => hk.2)) hb,Kd.S_lower (Kd.S_mono s3 (fun _ hk => hk.2)) hb⟩
theorem Sk.nil (w : World) (a b : Nat) : Sk w a b ⟨none,0,0⟩ ⟨none,0,0⟩ ⟨none,0,0⟩ [] [] [] := ⟨Kd.R_nil _ _ _ _ _,Kd.R_nil _ _ _ _ _,Kd.S_nil _ _ _ _ _⟩
theorem MInv.set6 {w wr : World} {a b gb go g6 : Nat} {x y z : Sl} {BB B6 B6' : Array Value} {h r : List Int} {R : List (List Int)} (m : MInv w wr a b gb go g6 x y z BB B6 h r R) (hab : a ≤ b) (i : Nat) (v : Value) (he : B6.setIfInBounds i v = B6') : MInv w (wr.setCell ⟨g6,i,none⟩ v) a b gb go g6 x y z BB B6' h r R := by
 have k : Kp wr (wr.setCell ⟨g6,i,none⟩ v) g6 (g6 + 1) := Kp.set ⟨Nat.le_refl _,Nat.lt_succ_self _⟩ v
 have o1 := m.o1
 have o2 := m.o2
 have o3 := m.o3
 have o4 := m.o4
 exact ⟨m.S.kp k (.inr (by omega)),m.B.kp k (.inl (by omega)),m.O.kp k (.inl (by omega)),blk_put m.X i v he,below_kp m.L k (by omega) m.L.size,o1,o2,o3,o4⟩
theorem Put.at_v {w : World} {a b g : Nat} {l : List Int} {v : Int} (p : Put w a b g l) {i : Nat} (hi : i < l.length) (e : l.getD i 0 = v) : w.cell? ⟨g,i,none⟩ = some (vi v) := by
 rw [← e]
 exact p.at_ hi

end Go.Proofs.Ytdciagkholijlaa.PFnEntries
