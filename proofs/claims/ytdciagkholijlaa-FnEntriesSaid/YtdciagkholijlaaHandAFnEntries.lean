/- What the hand walk of this law stands on: boxes, entries and sketches by the blocks that they lie in; the calls of what the law reaches. -/
import Derived.Test.YtdciagkholijlaaPFnEntriesx10
import Derived.Test.YtdciagkholijlaaPFnEntriesx12
import Derived.Test.YtdciagkholijlaaPFnEntriesx14
import Derived.Test.YtdciagkholijlaaPFnEntriesx15
import Derived.Test.YtdciagkholijlaaPFnEntriesx16
import Derived.Test.YtdciagkholijlaaPFnEntriesx17
import Derived.Test.YtdciagkholijlaaPFnEntriesx18
import Derived.Test.YtdciagkholijlaaPFnEntriesx2
import Derived.Test.YtdciagkholijlaaPFnEntriesx4
import Derived.Test.YtdciagkholijlaaPFnEntriesx6
import Derived.Test.YtdciagkholijlaaPFnEntriesx9
import Derived.Test.YtdciagkholijlaaAid
import Derived.WalkKit
import Derived.Deep.RegionHeld3
import Derived.Deep.DeepCutAuto
import Derived.Shelf.Spec.TrailingZeros
namespace Go.Proofs.Ytdciagkholijlaa.PFnEntries
open Go.RowKit Go.Proofs.Ytdciagkholijlaa.PFnEntries Go.Proofs.YtdciagkholijlaaW.PrintWords Go.Proofs.YtdciagkholijlaaW.PrintLast Go.Proofs.YtdciagkholijlaaW.PrintMore Go.Proofs.Ytdciagkholijlaa.Aid
set_option linter.unusedVariables false
set_option linter.unusedSimpArgs false
set_option maxHeartbeats 64000000
set_option maxRecDepth 100000

theorem Bx.cells10 {w : World} {g t : Nat} {v0 v1 v2 v3 v4 v5 v6 v7 v8 v9 : Value} (hb : Bx w g t #[v0,v1,v2,v3,v4,v5,v6,v7,v8,v9]) : w.cell? ⟨g,0,none⟩ = some v0 ∧ w.cell? ⟨g,1,none⟩ = some v1 ∧ w.cell? ⟨g,2,none⟩ = some v2 ∧ w.cell? ⟨g,3,none⟩ = some v3 ∧ w.cell? ⟨g,4,none⟩ = some v4 ∧ w.cell? ⟨g,5,none⟩ = some v5 ∧ w.cell? ⟨g,6,none⟩ = some v6 ∧ w.cell? ⟨g,7,none⟩ = some v7 ∧ w.cell? ⟨g,8,none⟩ = some v8 ∧ w.cell? ⟨g,9,none⟩ = some v9 := ⟨blk_cell hb 0,blk_cell hb 1,blk_cell hb 2,blk_cell hb 3,blk_cell hb 4,blk_cell hb 5,blk_cell hb 6,blk_cell hb 7,blk_cell hb 8,blk_cell hb 9⟩
structure Qd (w : World) (q : Sl) (l : List S70) : Prop where
 e : q.n = l.length
 le : l.length ≤ q.c
 C : k70.C w q.A l.length l
def Ek (w : World) (a b : Nat) (q x y z : Sl) (l : List S70) (h r : List Int) (R : List (List Int)) : Prop :=
 Kd.R k70 70 w a (fun k => k < b) (.slice q.A q.n q.c) l ∧ Sk w a b x y z h r R
structure Ed (w : World) (q x y z : Sl) (l : List S70) (h r : List Int) (R : List (List Int)) : Prop where
 q : Qd w q l
 s : Rd w x y z h r R
section
variable {w w1 w' : World} {a b a' b' : Nat} {q x y z : Sl} {l : List S70} {h r : List Int} {R : List (List Int)}
theorem Ek.below (s : Ek w a b q x y z l h r R) (hb : Below w.heap.size w w1) : Ek w1 a b q x y z l h r R := ⟨Kd.R_below s.1 hb,s.2.below hb⟩
theorem Ek.kp (s : Ek w a' b' q x y z l h r R) (k : Kp w w1 a b) (ha : b ≤ a' ∨ b' ≤ a) : Ek w1 a' b' q x y z l h r R :=
 ⟨Kd.R_mono (Kd.R_move (Kd.R_bound s.1) (fun i hi => k.kept.2 i hi.2.2.1 (fun hs => by have := hi.1;have := hi.2.1;omega))) (fun _ hk => hk.1),s.2.kp k ha⟩
theorem Ed.below (s : Ed w q x y z l h r R) (hb : Below w.heap.size w w1) : Ed w1 q x y z l h r R := ⟨⟨s.q.e,s.q.le,Kd.C_below s.q.C hb⟩,s.s.below hb⟩
theorem Ek.rd (s : Ek w a b q x y z l h r R) : Ed w q x y z l h r R := by
 obtain ⟨h1,h2,h3⟩ := Kd.R_reads' s.1
 exact ⟨⟨h1,by omega,h3⟩,s.2.rd⟩
end
structure Yf (W0 w : World) (g T : Nat) (Z : Array Value) (a : Nat) : Prop where
 bx : Bx w g T Z
 lo : W0.heap.size ≤ g
 hi : g < a
section
variable {W0 wp w1 w' : World} {T g : Nat} {Z : Array Value} {a b a' : Nat} {x y z : Sl} {h r : List Int} {R : List (List Int)} {y' : Sl} {Z' : Array Value}
end
def Er (w : World) (a b : Nat) (q x y z : Sl) (l : List S70) (h r : List Int) (R : List (List Int)) : Prop :=
 Kd.R k70 70 w a (fun k => k < b) (.slice q.A q.n q.c) l ∧ Rk w a b x y z h r R
section
variable {w w1 w' : World} {a b a' b' : Nat} {q x y z : Sl} {l : List S70} {h r : List Int} {R : List (List Int)}
theorem Er.below (s : Er w a b q x y z l h r R) (hb : Below w.heap.size w w1) : Er w1 a b q x y z l h r R := ⟨Kd.R_below s.1 hb,s.2.below hb⟩
theorem Er.kp (s : Er w a' b' q x y z l h r R) (k : Kp w w1 a b) (ha : b ≤ a' ∨ b' ≤ a) : Er w1 a' b' q x y z l h r R :=
 ⟨Kd.R_mono (Kd.R_move (Kd.R_bound s.1) (fun i hi => k.kept.2 i hi.2.2.1 (fun hs => by have := hi.1;have := hi.2.1;omega))) (fun _ hk => hk.1),s.2.kp k ha⟩
theorem Er.rd (s : Er w a b q x y z l h r R) : Ed w q x y z l h r R := by
 obtain ⟨h1,h2,h3⟩ := Kd.R_reads' s.1
 exact ⟨⟨h1,by omega,h3⟩,s.2.rd⟩
end

theorem Bx.fill10 {w : World} {g t : Nat} {a0 a1 a2 a3 a4 a5 a6 a7 a8 a9 : Value} (hb : Bx w g t #[a0,a1,a2,a3,a4,a5,a6,a7,a8,a9]) (v0 v1 v2 v3 v4 v5 v6 v7 v8 v9 : Value) :
  Bx ((((((((((w.setCell ⟨g,0,none⟩ v0).setCell ⟨g,1,none⟩ v1).setCell ⟨g,2,none⟩ v2).setCell ⟨g,3,none⟩ v3).setCell ⟨g,4,none⟩ v4).setCell ⟨g,5,none⟩ v5).setCell ⟨g,6,none⟩ v6).setCell ⟨g,7,none⟩ v7).setCell ⟨g,8,none⟩ v8).setCell ⟨g,9,none⟩ v9) g t #[v0,v1,v2,v3,v4,v5,v6,v7,v8,v9] ∧ Kp w ((((((((((w.setCell ⟨g,0,none⟩ v0).setCell ⟨g,1,none⟩ v1).setCell ⟨g,2,none⟩ v2).setCell ⟨g,3,none⟩ v3).setCell ⟨g,4,none⟩ v4).setCell ⟨g,5,none⟩ v5).setCell ⟨g,6,none⟩ v6).setCell ⟨g,7,none⟩ v7).setCell ⟨g,8,none⟩ v8).setCell ⟨g,9,none⟩ v9) g (g + 1) := by
 have hg : g ≤ g ∧ g < g + 1 := ⟨Nat.le_refl _,Nat.lt_succ_self _⟩
 refine ⟨?_,(((((((((Kp.set hg v0).trans (Kp.set hg v1)).trans (Kp.set hg v2)).trans (Kp.set hg v3)).trans (Kp.set hg v4)).trans (Kp.set hg v5)).trans (Kp.set hg v6)).trans (Kp.set hg v7)).trans (Kp.set hg v8)).trans (Kp.set hg v9)⟩
 have h0 : Bx _ g t #[v0,a1,a2,a3,a4,a5,a6,a7,a8,a9] := blk_put hb 0 v0 rfl
 have h1 : Bx _ g t #[v0,v1,a2,a3,a4,a5,a6,a7,a8,a9] := blk_put h0 1 v1 rfl
 have h2 : Bx _ g t #[v0,v1,v2,a3,a4,a5,a6,a7,a8,a9] := blk_put h1 2 v2 rfl
 have h3 : Bx _ g t #[v0,v1,v2,v3,a4,a5,a6,a7,a8,a9] := blk_put h2 3 v3 rfl
 have h4 : Bx _ g t #[v0,v1,v2,v3,v4,a5,a6,a7,a8,a9] := blk_put h3 4 v4 rfl
 have h5 : Bx _ g t #[v0,v1,v2,v3,v4,v5,a6,a7,a8,a9] := blk_put h4 5 v5 rfl
 have h6 : Bx _ g t #[v0,v1,v2,v3,v4,v5,v6,a7,a8,a9] := blk_put h5 6 v6 rfl
 have h7 : Bx _ g t #[v0,v1,v2,v3,v4,v5,v6,v7,a8,a9] := blk_put h6 7 v7 rfl
 have h8 : Bx _ g t #[v0,v1,v2,v3,v4,v5,v6,v7,v8,a9] := blk_put h7 8 v8 rfl
 exact blk_put h8 9 v9 rfl

def Qk (w : World) (a b : Nat) (q : Sl) (l : List S70) : Prop := Kd.R k70 70 w a (fun k => k < b) (.slice q.A q.n q.c) l
section
variable {w w1 : World} {a b a' b' : Nat} {q x y z : Sl} {l : List S70} {h r : List Int} {R : List (List Int)}
theorem Qk.below (s : Qk w a b q l) (hb : Below w.heap.size w w1) : Qk w1 a b q l := Kd.R_below s hb
theorem Qk.kp (s : Qk w a' b' q l) (k : Kp w w1 a b) (ha : b ≤ a' ∨ b' ≤ a) : Qk w1 a' b' q l := Kd.R_mono (Kd.R_move (Kd.R_bound s) (fun i hi => k.kept.2 i hi.2.2.1 (fun hs => by have := hi.1;have := hi.2.1;omega))) (fun _ hk => hk.1)
theorem Qk.wide (s : Qk w a b q l) (ha : a' ≤ a) (hb : b ≤ b') : Qk w a' b' q l := Kd.R_lower (Kd.R_mono s (fun _ hk => Nat.lt_of_lt_of_le hk hb)) ha
theorem Sk.wide (s : Sk w a b x y z h r R) (ha : a' ≤ a) (hb : b ≤ b') : Sk w a' b' x y z h r R := ⟨Kd.R_lower (Kd.R_mono s.1 (fun _ hk => Nat.lt_of_lt_of_le hk hb)) ha,Kd.R_lower (Kd.R_mono s.2.1 (fun _ hk => ⟨Nat.lt_of_lt_of_le hk.1 hb,hk.2⟩)) ha,Kd.S_lower (Kd.S_mono s.2.2 (fun _ hk => ⟨Nat.lt_of_lt_of_le hk.1 hb,hk.2⟩)) ha⟩
theorem Rk.wide (s : Rk w a b x y z h r R) (ha : a' ≤ a) (hb : b ≤ b') : Rk w a' b' x y z h r R := ⟨Kd.R_lower (Kd.R_mono s.1 (fun _ hk => Nat.lt_of_lt_of_le hk hb)) ha,Kd.R_lower (Kd.R_mono s.2.1 (fun _ hk => Nat.lt_of_lt_of_le hk hb)) ha,Kd.N_lower (Kd.N_mono s.2.2 (fun _ hk => ⟨by omega,by omega⟩)) ha⟩
end
structure EaI (w W : World) (A B : Array Value) : Prop where
 a : Bx W w.heap.size 34 A
 b : Bx W (w.heap.size + 1) 34 B
 o : Bx W (w.heap.size + 1 + 1) 34 #[vi 0,vi 0,.slice none 0 0,vi 0,vi 0,vi 0,vi 0,.slice none 0 0,.slice none 0 0,.slice none 0 0]
 l : Below w.heap.size w W
 n : w.heap.size + 3 ≤ W.heap.size
theorem EaI.below {w W W1 : World} {A B : Array Value} (m : EaI w W A B) (hb : Below W.heap.size W W1) : EaI w W1 A B := ⟨m.a.below hb,m.b.below hb,m.o.below hb,below_step m.l hb,Nat.le_trans m.n hb.size⟩
theorem ea_in (w : World) (A B : Array Value) : EaI w (((w.alloc (.cells A 34)).alloc (.cells B 34)).alloc (.cells #[vi 0,vi 0,.slice none 0 0,vi 0,vi 0,vi 0,vi 0,.slice none 0 0,.slice none 0 0,.slice none 0 0] 34)) A B := by
 have s1 : (w.alloc (.cells A 34)).heap.size = w.heap.size + 1 := by simp
 have s2 : ((w.alloc (.cells A 34)).alloc (.cells B 34)).heap.size = w.heap.size + 1 + 1 := by simp
 have b2 := Bx.new (w.alloc (.cells A 34)) 34 B
 have b3 := Bx.new ((w.alloc (.cells A 34)).alloc (.cells B 34)) 34 #[vi 0,vi 0,.slice none 0 0,vi 0,vi 0,vi 0,vi 0,.slice none 0 0,.slice none 0 0,.slice none 0 0]
 rw [s1] at b2
 rw [s2] at b3
 exact ⟨(Bx.new w 34 A).below (below_alloc (below_alloc (Below.refl _ _) _) _),b2.below (below_alloc (Below.refl _ _) _),b3,below_alloc (below_alloc (below_alloc (Below.refl _ _) _) _) _,by simp⟩
theorem EaI.endEk {w W W' : World} {A B : Array Value} {a b : Nat} {q x y z : Sl} {l : List S70} {h r : List Int} {R : List (List Int)} (m : EaI w W A B) (k : Kp W W' (w.heap.size + 1 + 1) (w.heap.size + 1 + 1 + 1)) (s : Ek W a b q x y z l h r R) (ha : w.heap.size + 3 ≤ a) (hab : a ≤ b) (hb : b ≤ W.heap.size) : Ek W' a b q x y z l h r R ∧ Made w W' a b ∧ Below w.heap.size w W' :=
 ⟨s.kp k (.inl (by omega)),⟨by omega,hab,Nat.le_trans hb k.kept.1⟩,below_kp m.l k (by omega) m.l.size⟩
theorem EaI.zeroEk {w W W' : World} {A B : Array Value} (m : EaI w W A B) (k : Kp W W' (w.heap.size + 1 + 1) (w.heap.size + 1 + 1 + 1)) : ∃ (q1 x1 y1 z1 : Sl) (a b : Nat),Ending.returned (.tuple #[.agg #[vi 0,vi 0,.slice none 0 0,vi 0,vi 0,vi 0,vi 0,.slice none 0 0,.slice none 0 0,.slice none 0 0],.bool false]) = .returned (.tuple #[.agg #[vi 0,vi 0,.slice q1.A q1.n q1.c,vi 0,vi 0,vi 0,vi 0,.slice x1.A x1.n x1.c,.slice y1.A y1.n y1.c,.slice z1.A z1.n z1.c],.bool false]) ∧ Ek W' a b q1 x1 y1 z1 [] [] [] [] ∧ Made w W' a b ∧ Below w.heap.size w W' :=
 ⟨⟨none,0,0⟩,⟨none,0,0⟩,⟨none,0,0⟩,⟨none,0,0⟩,w.heap.size + 3,w.heap.size + 3,rfl,m.endEk k ⟨Kd.R_nil _ _ _ _ _,Sk.nil _ _ _⟩ (Nat.le_refl _) (Nat.le_refl _) m.n⟩
theorem EaI.endEr {w W W' : World} {A B : Array Value} {a b : Nat} {q x y z : Sl} {l : List S70} {h r : List Int} {R : List (List Int)} (m : EaI w W A B) (k : Kp W W' (w.heap.size + 1 + 1) (w.heap.size + 1 + 1 + 1)) (s : Er W a b q x y z l h r R) (ha : w.heap.size + 3 ≤ a) (hab : a ≤ b) (hb : b ≤ W.heap.size) : Er W' a b q x y z l h r R ∧ Made w W' a b ∧ Below w.heap.size w W' :=
 ⟨s.kp k (.inl (by omega)),⟨by omega,hab,Nat.le_trans hb k.kept.1⟩,below_kp m.l k (by omega) m.l.size⟩
theorem EaI.zeroEr {w W W' : World} {A B : Array Value} (m : EaI w W A B) (k : Kp W W' (w.heap.size + 1 + 1) (w.heap.size + 1 + 1 + 1)) : ∃ (q1 x1 y1 z1 : Sl) (a b : Nat),Ending.returned (.tuple #[.agg #[vi 0,vi 0,.slice none 0 0,vi 0,vi 0,vi 0,vi 0,.slice none 0 0,.slice none 0 0,.slice none 0 0],.bool false]) = .returned (.tuple #[.agg #[vi 0,vi 0,.slice q1.A q1.n q1.c,vi 0,vi 0,vi 0,vi 0,.slice x1.A x1.n x1.c,.slice y1.A y1.n y1.c,.slice z1.A z1.n z1.c],.bool false]) ∧ Er W' a b q1 x1 y1 z1 [] [] [] [] ∧ Made w W' a b ∧ Below w.heap.size w W' :=
 ⟨⟨none,0,0⟩,⟨none,0,0⟩,⟨none,0,0⟩,⟨none,0,0⟩,w.heap.size + 3,w.heap.size + 3,rfl,m.endEr k ⟨Kd.R_nil _ _ _ _ _,(Sk.nil _ _ _).rk⟩ (Nat.le_refl _) (Nat.le_refl _) m.n⟩
theorem implOk_callD (k : Nat) {w : World} {q x y z : Sl} {l : List S70} {h r : List Int} {R : List (List Int)} (ke wi c s lo hi : Int) (t : Bool) (u : Ed w q x y z l h r R) (he : impl_EntryOk.f k ke wi l c s lo hi h r R = some t) :
  Calls Try.prog 14 #[.agg #[vi ke,vi wi,.slice q.A q.n q.c,vi c,vi s,vi lo,vi hi,.slice x.A x.n x.c,.slice y.A y.n y.c,.slice z.A z.n z.c]] w fun e w' => e = .returned (.bool t) ∧ Below w.heap.size w w' := by
 rw [u.q.e,u.s.e4,u.s.e5,u.s.e6]
 exact impl_EntryOk.calls k ke wi _ _ l c s lo hi _ _ h _ _ r _ _ R t w u.q.C u.q.le u.s.C4 u.s.l4 u.s.C5 u.s.l5 u.s.C6 u.s.l6 he
theorem specOk_callD (k : Nat) {w : World} {q x y z : Sl} {l : List S70} {h r : List Int} {R : List (List Int)} (ke wi c s lo hi : Int) (t : Bool) (u : Ed w q x y z l h r R) (he : spec_EntryOk.f k ke wi l c s lo hi h r R = some t) :
  Calls Try.prog 61 #[.agg #[vi ke,vi wi,.slice q.A q.n q.c,vi c,vi s,vi lo,vi hi,.slice x.A x.n x.c,.slice y.A y.n y.c,.slice z.A z.n z.c]] w fun e w' => e = .returned (.bool t) ∧ Below w.heap.size w w' := by
 rw [u.q.e,u.s.e4,u.s.e5,u.s.e6]
 exact spec_EntryOk.calls k ke wi _ _ l c s lo hi _ _ h _ _ r _ _ R t w u.q.C u.q.le u.s.C4 u.s.l4 u.s.C5 u.s.l5 u.s.C6 u.s.l6 he
theorem implApart_callD (k : Nat) {w : World} {q q' : Sl} {l l' : List S70} (t : Bool) (u : Qd w q l) (u' : Qd w q' l') (he : impl_SetApart.f k l l' = some t) :
  Calls Try.prog 58 #[.slice q.A q.n q.c,.slice q'.A q'.n q'.c] w fun e w' => e = .returned (.bool t) ∧ Below w.heap.size w w' := by
 rw [u.e,u'.e]
 exact impl_SetApart.calls k _ _ l _ _ l' t w u.C u.le u'.C u'.le he
theorem specApart_callD (k : Nat) {w : World} {q q' : Sl} {l l' : List S70} (t : Bool) (u : Qd w q l) (u' : Qd w q' l') (he : spec_SetApart.f k l l' = some t) :
  Calls Try.prog 62 #[.slice q.A q.n q.c,.slice q'.A q'.n q'.c] w fun e w' => e = .returned (.bool t) ∧ Below w.heap.size w w' := by
 rw [u.e,u'.e]
 refine (spec_SetApart.calls k _ _ l _ _ l' t w u.C u.le u'.C u'.le he).mono ?_
 rintro e w' ⟨rfl,nd,rfl⟩
 exact ⟨rfl,pw_below_drewN (Below.refl _ _) _⟩
theorem implJoin_callD (k : Nat) {w : World} {q q' : Sl} {l l' l1 : List S70} (t : Bool) (u : Qd w q l) (u' : Qd w q' l') (he : impl_SetJoin.f k l l' = some (l1,t)) :
  Calls Try.prog 59 #[.slice q.A q.n q.c,.slice q'.A q'.n q'.c] w fun e w' => ∃ (v : Sl) (a b : Nat),e = .returned (.tuple #[.slice v.A v.n v.c,.bool t]) ∧ Qk w' a b v l1 ∧ Made w w' a b ∧ Below w.heap.size w w' := by
 rw [u.e,u'.e]
 refine (impl_SetJoin.calls k _ _ l _ _ l' l1 t w u.C u.le u'.C u'.le he).mono ?_
 rintro e w' ⟨v,rfl,hR,hb⟩
 obtain ⟨A1,c1,rfl⟩ := Kd.R_slice hR
 exact ⟨⟨A1,_,c1⟩,w.heap.size,w'.heap.size,rfl,Kd.R_mono (Kd.R_bound hR) (fun _ hk => hk.2.2.1),⟨Nat.le_refl _,hb.size,Nat.le_refl _⟩,hb⟩
theorem l5_callD (k : Nat) {w : World} {q q' : Sl} {l l' l1 : List S70} (u : Qd w q l) (u' : Qd w q' l') (he : spec_l5Join.f k l l' = some l1) :
  Calls Try.prog 93 #[.slice q.A q.n q.c,.slice q'.A q'.n q'.c] w fun e w' => ∃ (v : Sl) (a b : Nat),e = .returned (.slice v.A v.n v.c) ∧ Qk w' a b v l1 ∧ Made w w' a b ∧ Below w.heap.size w w' := by
 rw [u.e,u'.e]
 refine (spec_l5Join.calls k _ _ l _ _ l' l1 w u.C u.le u'.C u'.le he).mono ?_
 rintro e w' ⟨v,rfl,hR,hb⟩
 obtain ⟨A1,c1,rfl⟩ := Kd.R_slice hR
 exact ⟨⟨A1,_,c1⟩,w.heap.size,w'.heap.size,rfl,Kd.R_mono (Kd.R_bound hR) (fun _ hk => hk.2.2.1),⟨Nat.le_refl _,hb.size,Nat.le_refl _⟩,hb⟩
theorem l3_callD (k : Nat) {w : World} {x y z x' y' z' : Sl} {h r h' r' : List Int} {R R' : List (List Int)} (c s lo hi c' s' lo' hi' c1 s1 aa ab : Int) (h1 r1 : List Int) (R1 : List (List Int)) (u : Rd w x y z h r R) (u' : Rd w x' y' z' h' r' R') (he : spec_l3Merge.f k c s lo hi h r R c' s' lo' hi' h' r' R' = some (c1,s1,aa,ab,h1,r1,R1)) :
  Calls Try.prog 94 #[.agg #[vi c,vi s,vi lo,vi hi,.slice x.A x.n x.c,.slice y.A y.n y.c,.slice z.A z.n z.c],.agg #[vi c',vi s',vi lo',vi hi',.slice x'.A x'.n x'.c,.slice y'.A y'.n y'.c,.slice z'.A z'.n z'.c]] w fun e w' => ∃ (x1 y1 z1 : Sl) (a b : Nat),e = .returned (.agg #[vi c1,vi s1,vi aa,vi ab,.slice x1.A x1.n x1.c,.slice y1.A y1.n y1.c,.slice z1.A z1.n z1.c]) ∧ Rk w' a b x1 y1 z1 h1 r1 R1 ∧ Made w w' a b ∧ Below w.heap.size w w' := by
 rw [u.e4,u.e5,u.e6,u'.e4,u'.e5,u'.e6]
 refine (spec_l3Merge.calls k c s lo hi _ _ h _ _ r _ _ R c' s' lo' hi' _ _ h' _ _ r' _ _ R' c1 s1 aa ab h1 r1 R1 w u.C4 u.l4 u.C5 u.l5 u.C6 u.l6 u'.C4 u'.l4 u'.C5 u'.l5 u'.C6 u'.l6 he).mono ?_
 rintro e w' ⟨v4,v5,v6,rfl,h4,h5,h6,hb⟩
 obtain ⟨x1,y1,z1,rfl,rfl,rfl,hs⟩ := Sk.of h4 h5 h6 (fun _ hk => hk) (fun _ hk => hk)
 exact ⟨x1,y1,z1,_,_,rfl,hs.rk,⟨Nat.le_refl _,hb.size,Nat.le_refl _⟩,hb⟩
theorem implM_callD (k : Nat) {w : World} {x y z x' y' z' : Sl} {h r h' r' : List Int} {R R' : List (List Int)} (c s lo hi c' s' lo' hi' c1 s1 aa ab : Int) (h1 r1 : List Int) (R1 : List (List Int)) (t : Bool) (u : Rd w x y z h r R) (u' : Rd w x' y' z' h' r' R') (he : impl_Merge.f k c s lo hi h r R c' s' lo' hi' h' r' R' = some (c1,s1,aa,ab,h1,r1,R1,t)) :
  Calls Try.prog 60 #[.agg #[vi c,vi s,vi lo,vi hi,.slice x.A x.n x.c,.slice y.A y.n y.c,.slice z.A z.n z.c],.agg #[vi c',vi s',vi lo',vi hi',.slice x'.A x'.n x'.c,.slice y'.A y'.n y'.c,.slice z'.A z'.n z'.c]] w fun e w' => ∃ (x1 y1 z1 : Sl) (a b : Nat),e = .returned (.tuple #[.agg #[vi c1,vi s1,vi aa,vi ab,.slice x1.A x1.n x1.c,.slice y1.A y1.n y1.c,.slice z1.A z1.n z1.c],.bool t]) ∧ Sk w' a b x1 y1 z1 h1 r1 R1 ∧ Made w w' a b ∧ Below w.heap.size w w' := by
 rw [u.e4,u.e5,u.e6,u'.e4,u'.e5,u'.e6]
 refine (impl_Merge.calls k c s lo hi _ _ h _ _ r _ _ R c' s' lo' hi' _ _ h' _ _ r' _ _ R' c1 s1 aa ab h1 r1 R1 t w u.C4 u.l4 u.C5 u.l5 u.C6 u.l6 u'.C4 u'.l4 u'.C5 u'.l5 u'.C6 u'.l6 he).mono ?_
 rintro e w' ⟨v4,v5,v6,rfl,h4,h5,h6,hb⟩
 obtain ⟨x1,y1,z1,rfl,rfl,rfl,hs⟩ := Sk.of h4 h5 h6 (fun _ hk => hk) (fun _ hk => hk)
 exact ⟨x1,y1,z1,_,_,rfl,hs,⟨Nat.le_refl _,hb.size,Nat.le_refl _⟩,hb⟩
theorem impl_EntryAdd.w1 (k : Nat) {w : World} {q x y z q' x' y' z' : Sl} {l l' : List S70} {h r h' r' : List Int} {R R' : List (List Int)} (ke wi c s lo hi ke' wi' c' s' lo' hi' : Int) (U : Aside0 (Ed w q x y z l h r R)) (U' : Aside0 (Ed w q' x' y' z' l' h' r' R')) (K1 : Aside0 (impl_EntryOk.f k ke wi l c s lo hi h r R = some false)) :
  Calls Try.prog 27 #[.agg #[vi ke,vi wi,.slice q.A q.n q.c,vi c,vi s,vi lo,vi hi,.slice x.A x.n x.c,.slice y.A y.n y.c,.slice z.A z.n z.c],.agg #[vi ke',vi wi',.slice q'.A q'.n q'.c,vi c',vi s',vi lo',vi hi',.slice x'.A x'.n x'.c,.slice y'.A y'.n y'.c,.slice z'.A z'.n z'.c]] w (fun e w' => ∃ (q1 x1 y1 z1 : Sl) (a b : Nat),e = .returned (.tuple #[.agg #[vi 0,vi 0,.slice q1.A q1.n q1.c,vi 0,vi 0,vi 0,vi 0,.slice x1.A x1.n x1.c,.slice y1.A y1.n y1.c,.slice z1.A z1.n z1.c],.bool false]) ∧ Ek w' a b q1 x1 y1 z1 [] [] [] [] ∧ Made w w' a b ∧ Below w.heap.size w w') := by
 go_enter Try.func27,Try.ntmps27
 have M0 := mkA (ea_in w #[vi ke,vi wi,.slice q.A q.n q.c,vi c,vi s,vi lo,vi hi,.slice x.A x.n x.c,.slice y.A y.n y.c,.slice z.A z.n z.c] #[vi ke',vi wi',.slice q'.A q'.n q'.c,vi c',vi s',vi lo',vi hi',.slice x'.A x'.n x'.c,.slice y'.A y'.n y'.c,.slice z'.A z'.n z'.c])
 go_wp2_with fail
 refine (implOk_callD k ke wi c s lo hi false (U.out.below M0.out.l) K1.out).mono ?_
 rintro e w1 ⟨rfl,hb⟩
 have M1 := mkA (M0.out.below hb)
 obtain ⟨o0,o1,o2,o3,o4,o5,o6,o7,o8,o9⟩ := M1.out.o.cells10
 have fo := M1.out.o.fz
 go_wp2
 refine bodyPost_ret (results_ct rfl _ _ (w.heap.size + 1 + 1) 34 #[vi 0,vi 0,.slice none 0 0,vi 0,vi 0,vi 0,vi 0,.slice none 0 0,.slice none 0 0,.slice none 0 0] (0,0) _ rfl (M1.out.o.fill10 _ _ _ _ _ _ _ _ _ _ ).1 Try.underlying34 rfl (by kernel_rfl)) rfl ?_
 exact M1.out.zeroEk (M1.out.o.fill10 _ _ _ _ _ _ _ _ _ _ ).2
theorem impl_EntryAdd.w2 (k : Nat) {w : World} {q x y z q' x' y' z' : Sl} {l l' : List S70} {h r h' r' : List Int} {R R' : List (List Int)} (ke wi c s lo hi ke' wi' c' s' lo' hi' : Int) (U : Aside0 (Ed w q x y z l h r R)) (U' : Aside0 (Ed w q' x' y' z' l' h' r' R')) (K1 : Aside0 (impl_EntryOk.f k ke wi l c s lo hi h r R = some true)) (K2 : Aside0 (impl_EntryOk.f k ke' wi' l' c' s' lo' hi' h' r' R' = some false)) :
  Calls Try.prog 27 #[.agg #[vi ke,vi wi,.slice q.A q.n q.c,vi c,vi s,vi lo,vi hi,.slice x.A x.n x.c,.slice y.A y.n y.c,.slice z.A z.n z.c],.agg #[vi ke',vi wi',.slice q'.A q'.n q'.c,vi c',vi s',vi lo',vi hi',.slice x'.A x'.n x'.c,.slice y'.A y'.n y'.c,.slice z'.A z'.n z'.c]] w (fun e w' => ∃ (q1 x1 y1 z1 : Sl) (a b : Nat),e = .returned (.tuple #[.agg #[vi 0,vi 0,.slice q1.A q1.n q1.c,vi 0,vi 0,vi 0,vi 0,.slice x1.A x1.n x1.c,.slice y1.A y1.n y1.c,.slice z1.A z1.n z1.c],.bool false]) ∧ Ek w' a b q1 x1 y1 z1 [] [] [] [] ∧ Made w w' a b ∧ Below w.heap.size w w') := by
 go_enter Try.func27,Try.ntmps27
 have M0 := mkA (ea_in w #[vi ke,vi wi,.slice q.A q.n q.c,vi c,vi s,vi lo,vi hi,.slice x.A x.n x.c,.slice y.A y.n y.c,.slice z.A z.n z.c] #[vi ke',vi wi',.slice q'.A q'.n q'.c,vi c',vi s',vi lo',vi hi',.slice x'.A x'.n x'.c,.slice y'.A y'.n y'.c,.slice z'.A z'.n z'.c])
 go_wp2_with fail
 refine (implOk_callD k ke wi c s lo hi true (U.out.below M0.out.l) K1.out).mono ?_
 rintro e w1 ⟨rfl,hb⟩
 have M1 := mkA (M0.out.below hb)
 obtain ⟨y0,y1,y2,y3,y4,y5,y6,y7,y8,y9⟩ := M1.out.b.cells10
 go_wp2_with fail
 clear y0 y1 y2 y3 y4 y5 y6 y7 y8 y9
 refine (implOk_callD k ke' wi' c' s' lo' hi' false (U'.out.below M1.out.l) K2.out).mono ?_
 rintro e w2 ⟨rfl,hb⟩
 have M2 := mkA (M1.out.below hb)
 obtain ⟨o0,o1,o2,o3,o4,o5,o6,o7,o8,o9⟩ := M2.out.o.cells10
 have fo := M2.out.o.fz
 go_wp2
 refine bodyPost_ret (results_ct rfl _ _ (w.heap.size + 1 + 1) 34 #[vi 0,vi 0,.slice none 0 0,vi 0,vi 0,vi 0,vi 0,.slice none 0 0,.slice none 0 0,.slice none 0 0] (0,0) _ rfl (M2.out.o.fill10 _ _ _ _ _ _ _ _ _ _ ).1 Try.underlying34 rfl (by kernel_rfl)) rfl ?_
 exact M2.out.zeroEk (M2.out.o.fill10 _ _ _ _ _ _ _ _ _ _ ).2
theorem impl_EntryAdd.w3 (k : Nat) {w : World} {q x y z q' x' y' z' : Sl} {l l' : List S70} {h r h' r' : List Int} {R R' : List (List Int)} (ke wi c s lo hi ke' wi' c' s' lo' hi' : Int) (U : Aside0 (Ed w q x y z l h r R)) (U' : Aside0 (Ed w q' x' y' z' l' h' r' R')) (K1 : Aside0 (impl_EntryOk.f k ke wi l c s lo hi h r R = some true)) (K2 : Aside0 (impl_EntryOk.f k ke' wi' l' c' s' lo' hi' h' r' R' = some true)) (HN : Aside0 (¬ ke = ke')) :
  Calls Try.prog 27 #[.agg #[vi ke,vi wi,.slice q.A q.n q.c,vi c,vi s,vi lo,vi hi,.slice x.A x.n x.c,.slice y.A y.n y.c,.slice z.A z.n z.c],.agg #[vi ke',vi wi',.slice q'.A q'.n q'.c,vi c',vi s',vi lo',vi hi',.slice x'.A x'.n x'.c,.slice y'.A y'.n y'.c,.slice z'.A z'.n z'.c]] w (fun e w' => ∃ (q1 x1 y1 z1 : Sl) (a b : Nat),e = .returned (.tuple #[.agg #[vi 0,vi 0,.slice q1.A q1.n q1.c,vi 0,vi 0,vi 0,vi 0,.slice x1.A x1.n x1.c,.slice y1.A y1.n y1.c,.slice z1.A z1.n z1.c],.bool false]) ∧ Ek w' a b q1 x1 y1 z1 [] [] [] [] ∧ Made w w' a b ∧ Below w.heap.size w w') := by
 go_enter Try.func27,Try.ntmps27
 have M0 := mkA (ea_in w #[vi ke,vi wi,.slice q.A q.n q.c,vi c,vi s,vi lo,vi hi,.slice x.A x.n x.c,.slice y.A y.n y.c,.slice z.A z.n z.c] #[vi ke',vi wi',.slice q'.A q'.n q'.c,vi c',vi s',vi lo',vi hi',.slice x'.A x'.n x'.c,.slice y'.A y'.n y'.c,.slice z'.A z'.n z'.c])
 go_wp2_with fail
 refine (implOk_callD k ke wi c s lo hi true (U.out.below M0.out.l) K1.out).mono ?_
 rintro e w1 ⟨rfl,hb⟩
 have M1 := mkA (M0.out.below hb)
 obtain ⟨y0,y1,y2,y3,y4,y5,y6,y7,y8,y9⟩ := M1.out.b.cells10
 go_wp2_with fail
 clear y0 y1 y2 y3 y4 y5 y6 y7 y8 y9
 refine (implOk_callD k ke' wi' c' s' lo' hi' true (U'.out.below M1.out.l) K2.out).mono ?_
 rintro e w2 ⟨rfl,hb⟩
 have M2 := mkA (M1.out.below hb)
 obtain ⟨x0,x1,x2,x3,x4,x5,x6,x7,x8,x9⟩ := M2.out.a.cells10
 obtain ⟨y0,y1,y2,y3,y4,y5,y6,y7,y8,y9⟩ := M2.out.b.cells10
 have hne := HN.out
 obtain ⟨o0,o1,o2,o3,o4,o5,o6,o7,o8,o9⟩ := M2.out.o.cells10
 have fo := M2.out.o.fz
 go_wp2
 refine bodyPost_ret (results_ct rfl _ _ (w.heap.size + 1 + 1) 34 #[vi 0,vi 0,.slice none 0 0,vi 0,vi 0,vi 0,vi 0,.slice none 0 0,.slice none 0 0,.slice none 0 0] (0,0) _ rfl (M2.out.o.fill10 _ _ _ _ _ _ _ _ _ _ ).1 Try.underlying34 rfl (by kernel_rfl)) rfl ?_
 exact M2.out.zeroEk (M2.out.o.fill10 _ _ _ _ _ _ _ _ _ _ ).2
theorem impl_EntryAdd.w4 (k : Nat) {w : World} {q x y z q' x' y' z' : Sl} {l l' : List S70} {h r h' r' : List Int} {R R' : List (List Int)} (ke wi c s lo hi wi' c' s' lo' hi' : Int) (U : Aside0 (Ed w q x y z l h r R)) (U' : Aside0 (Ed w q' x' y' z' l' h' r' R')) (K1 : Aside0 (impl_EntryOk.f k ke wi l c s lo hi h r R = some true)) (K2 : Aside0 (impl_EntryOk.f k ke wi' l' c' s' lo' hi' h' r' R' = some true)) (HN : Aside0 (¬ wi = wi')) :
  Calls Try.prog 27 #[.agg #[vi ke,vi wi,.slice q.A q.n q.c,vi c,vi s,vi lo,vi hi,.slice x.A x.n x.c,.slice y.A y.n y.c,.slice z.A z.n z.c],.agg #[vi ke,vi wi',.slice q'.A q'.n q'.c,vi c',vi s',vi lo',vi hi',.slice x'.A x'.n x'.c,.slice y'.A y'.n y'.c,.slice z'.A z'.n z'.c]] w (fun e w' => ∃ (q1 x1 y1 z1 : Sl) (a b : Nat),e = .returned (.tuple #[.agg #[vi 0,vi 0,.slice q1.A q1.n q1.c,vi 0,vi 0,vi 0,vi 0,.slice x1.A x1.n x1.c,.slice y1.A y1.n y1.c,.slice z1.A z1.n z1.c],.bool false]) ∧ Ek w' a b q1 x1 y1 z1 [] [] [] [] ∧ Made w w' a b ∧ Below w.heap.size w w') := by
 go_enter Try.func27,Try.ntmps27
 have M0 := mkA (ea_in w #[vi ke,vi wi,.slice q.A q.n q.c,vi c,vi s,vi lo,vi hi,.slice x.A x.n x.c,.slice y.A y.n y.c,.slice z.A z.n z.c] #[vi ke,vi wi',.slice q'.A q'.n q'.c,vi c',vi s',vi lo',vi hi',.slice x'.A x'.n x'.c,.slice y'.A y'.n y'.c,.slice z'.A z'.n z'.c])
 go_wp2_with fail
 refine (implOk_callD k ke wi c s lo hi true (U.out.below M0.out.l) K1.out).mono ?_
 rintro e w1 ⟨rfl,hb⟩
 have M1 := mkA (M0.out.below hb)
 obtain ⟨y0,y1,y2,y3,y4,y5,y6,y7,y8,y9⟩ := M1.out.b.cells10
 go_wp2_with fail
 clear y0 y1 y2 y3 y4 y5 y6 y7 y8 y9
 refine (implOk_callD k ke wi' c' s' lo' hi' true (U'.out.below M1.out.l) K2.out).mono ?_
 rintro e w2 ⟨rfl,hb⟩
 have M2 := mkA (M1.out.below hb)
 obtain ⟨x0,x1,x2,x3,x4,x5,x6,x7,x8,x9⟩ := M2.out.a.cells10
 obtain ⟨y0,y1,y2,y3,y4,y5,y6,y7,y8,y9⟩ := M2.out.b.cells10
 have hne := HN.out
 obtain ⟨o0,o1,o2,o3,o4,o5,o6,o7,o8,o9⟩ := M2.out.o.cells10
 have fo := M2.out.o.fz
 go_wp2
 refine bodyPost_ret (results_ct rfl _ _ (w.heap.size + 1 + 1) 34 #[vi 0,vi 0,.slice none 0 0,vi 0,vi 0,vi 0,vi 0,.slice none 0 0,.slice none 0 0,.slice none 0 0] (0,0) _ rfl (M2.out.o.fill10 _ _ _ _ _ _ _ _ _ _ ).1 Try.underlying34 rfl (by kernel_rfl)) rfl ?_
 exact M2.out.zeroEk (M2.out.o.fill10 _ _ _ _ _ _ _ _ _ _ ).2
theorem impl_EntryAdd.w5 (k : Nat) {w : World} {q x y z q' x' y' z' : Sl} {l l' : List S70} {h r h' r' : List Int} {R R' : List (List Int)} (ke wi c s lo hi c' s' lo' hi' : Int) (U : Aside0 (Ed w q x y z l h r R)) (U' : Aside0 (Ed w q' x' y' z' l' h' r' R')) (K1 : Aside0 (impl_EntryOk.f k ke wi l c s lo hi h r R = some true)) (K2 : Aside0 (impl_EntryOk.f k ke wi l' c' s' lo' hi' h' r' R' = some true)) (K3 : Aside0 (impl_SetApart.f k l l' = some false)) :
  Calls Try.prog 27 #[.agg #[vi ke,vi wi,.slice q.A q.n q.c,vi c,vi s,vi lo,vi hi,.slice x.A x.n x.c,.slice y.A y.n y.c,.slice z.A z.n z.c],.agg #[vi ke,vi wi,.slice q'.A q'.n q'.c,vi c',vi s',vi lo',vi hi',.slice x'.A x'.n x'.c,.slice y'.A y'.n y'.c,.slice z'.A z'.n z'.c]] w (fun e w' => ∃ (q1 x1 y1 z1 : Sl) (a b : Nat),e = .returned (.tuple #[.agg #[vi 0,vi 0,.slice q1.A q1.n q1.c,vi 0,vi 0,vi 0,vi 0,.slice x1.A x1.n x1.c,.slice y1.A y1.n y1.c,.slice z1.A z1.n z1.c],.bool false]) ∧ Ek w' a b q1 x1 y1 z1 [] [] [] [] ∧ Made w w' a b ∧ Below w.heap.size w w') := by
 go_enter Try.func27,Try.ntmps27
 have M0 := mkA (ea_in w #[vi ke,vi wi,.slice q.A q.n q.c,vi c,vi s,vi lo,vi hi,.slice x.A x.n x.c,.slice y.A y.n y.c,.slice z.A z.n z.c] #[vi ke,vi wi,.slice q'.A q'.n q'.c,vi c',vi s',vi lo',vi hi',.slice x'.A x'.n x'.c,.slice y'.A y'.n y'.c,.slice z'.A z'.n z'.c])
 go_wp2_with fail
 refine (implOk_callD k ke wi c s lo hi true (U.out.below M0.out.l) K1.out).mono ?_
 rintro e w1 ⟨rfl,hb⟩
 have M1 := mkA (M0.out.below hb)
 obtain ⟨y0,y1,y2,y3,y4,y5,y6,y7,y8,y9⟩ := M1.out.b.cells10
 go_wp2_with fail
 clear y0 y1 y2 y3 y4 y5 y6 y7 y8 y9
 refine (implOk_callD k ke wi c' s' lo' hi' true (U'.out.below M1.out.l) K2.out).mono ?_
 rintro e w2 ⟨rfl,hb⟩
 have M2 := mkA (M1.out.below hb)
 obtain ⟨x0,x1,x2,x3,x4,x5,x6,x7,x8,x9⟩ := M2.out.a.cells10
 obtain ⟨y0,y1,y2,y3,y4,y5,y6,y7,y8,y9⟩ := M2.out.b.cells10
 go_wp2_with fail
 clear x0 x1 x2 x3 x4 x5 x6 x7 x8 x9 y0 y1 y2 y3 y4 y5 y6 y7 y8 y9
 refine (implApart_callD k false (U.out.below M2.out.l).q (U'.out.below M2.out.l).q K3.out).mono ?_
 rintro e w3 ⟨rfl,hb⟩
 have M3 := mkA (M2.out.below hb)
 obtain ⟨o0,o1,o2,o3,o4,o5,o6,o7,o8,o9⟩ := M3.out.o.cells10
 have fo := M3.out.o.fz
 go_wp2
 refine bodyPost_ret (results_ct rfl _ _ (w.heap.size + 1 + 1) 34 #[vi 0,vi 0,.slice none 0 0,vi 0,vi 0,vi 0,vi 0,.slice none 0 0,.slice none 0 0,.slice none 0 0] (0,0) _ rfl (M3.out.o.fill10 _ _ _ _ _ _ _ _ _ _ ).1 Try.underlying34 rfl (by kernel_rfl)) rfl ?_
 exact M3.out.zeroEk (M3.out.o.fill10 _ _ _ _ _ _ _ _ _ _ ).2
theorem impl_EntryAdd.w6 (k : Nat) {w : World} {q x y z q' x' y' z' : Sl} {l l' : List S70} {h r h' r' : List Int} {R R' : List (List Int)} (ke wi c s lo hi c' s' lo' hi' c1 s1 aa ab : Int) (l1 : List S70) (h1 r1 : List Int) (R1 : List (List Int)) (t1 t2 : Bool) (U : Aside0 (Ed w q x y z l h r R)) (U' : Aside0 (Ed w q' x' y' z' l' h' r' R')) (K1 : Aside0 (impl_EntryOk.f k ke wi l c s lo hi h r R = some true)) (K2 : Aside0 (impl_EntryOk.f k ke wi l' c' s' lo' hi' h' r' R' = some true)) (K3 : Aside0 (impl_SetApart.f k l l' = some true)) (K4 : Aside0 (impl_SetJoin.f k l l' = some (l1,t1))) (K5 : Aside0 (impl_Merge.f k c s lo hi h r R c' s' lo' hi' h' r' R' = some (c1,s1,aa,ab,h1,r1,R1,t2))) :
  Calls Try.prog 27 #[.agg #[vi ke,vi wi,.slice q.A q.n q.c,vi c,vi s,vi lo,vi hi,.slice x.A x.n x.c,.slice y.A y.n y.c,.slice z.A z.n z.c],.agg #[vi ke,vi wi,.slice q'.A q'.n q'.c,vi c',vi s',vi lo',vi hi',.slice x'.A x'.n x'.c,.slice y'.A y'.n y'.c,.slice z'.A z'.n z'.c]] w (fun e w' => ∃ (q1 x1 y1 z1 : Sl) (a b : Nat),e = .returned (.tuple #[.agg #[vi ke,vi wi,.slice q1.A q1.n q1.c,vi c1,vi s1,vi aa,vi ab,.slice x1.A x1.n x1.c,.slice y1.A y1.n y1.c,.slice z1.A z1.n z1.c],.bool true]) ∧ Ek w' a b q1 x1 y1 z1 l1 h1 r1 R1 ∧ Made w w' a b ∧ Below w.heap.size w w') := by
 go_enter Try.func27,Try.ntmps27
 have M0 := mkA (ea_in w #[vi ke,vi wi,.slice q.A q.n q.c,vi c,vi s,vi lo,vi hi,.slice x.A x.n x.c,.slice y.A y.n y.c,.slice z.A z.n z.c] #[vi ke,vi wi,.slice q'.A q'.n q'.c,vi c',vi s',vi lo',vi hi',.slice x'.A x'.n x'.c,.slice y'.A y'.n y'.c,.slice z'.A z'.n z'.c])
 go_wp2_with fail
 refine (implOk_callD k ke wi c s lo hi true (U.out.below M0.out.l) K1.out).mono ?_
 rintro e w1 ⟨rfl,hb⟩
 have M1 := mkA (M0.out.below hb)
 obtain ⟨y0,y1,y2,y3,y4,y5,y6,y7,y8,y9⟩ := M1.out.b.cells10
 go_wp2_with fail
 clear y0 y1 y2 y3 y4 y5 y6 y7 y8 y9
 refine (implOk_callD k ke wi c' s' lo' hi' true (U'.out.below M1.out.l) K2.out).mono ?_
 rintro e w2 ⟨rfl,hb⟩
 have M2 := mkA (M1.out.below hb)
 obtain ⟨x0,x1,x2,x3,x4,x5,x6,x7,x8,x9⟩ := M2.out.a.cells10
 obtain ⟨y0,y1,y2,y3,y4,y5,y6,y7,y8,y9⟩ := M2.out.b.cells10
 go_wp2_with fail
 clear x0 x1 x2 x3 x4 x5 x6 x7 x8 x9 y0 y1 y2 y3 y4 y5 y6 y7 y8 y9
 refine (implApart_callD k true (U.out.below M2.out.l).q (U'.out.below M2.out.l).q K3.out).mono ?_
 rintro e w3 ⟨rfl,hb⟩
 have M3 := mkA (M2.out.below hb)
 obtain ⟨x0,x1,x2,x3,x4,x5,x6,x7,x8,x9⟩ := M3.out.a.cells10
 obtain ⟨y0,y1,y2,y3,y4,y5,y6,y7,y8,y9⟩ := M3.out.b.cells10
 go_wp2_with fail
 clear x0 x1 x2 x3 x4 x5 x6 x7 x8 x9 y0 y1 y2 y3 y4 y5 y6 y7 y8 y9
 refine (implJoin_callD k t1 (U.out.below M3.out.l).q (U'.out.below M3.out.l).q K4.out).mono ?_
 rintro e w4 ⟨qj,aj,bj,rfl,hs,hm,hb⟩
 have M4 := mkA (M3.out.below hb)
 have J := mkA hs
 have NJ := mkA hm
 clear hs hm hb
 obtain ⟨x0,x1,x2,x3,x4,x5,x6,x7,x8,x9⟩ := M4.out.a.cells10
 obtain ⟨y0,y1,y2,y3,y4,y5,y6,y7,y8,y9⟩ := M4.out.b.cells10
 go_wp2_with fail
 clear x0 x1 x2 x3 x4 x5 x6 x7 x8 x9 y0 y1 y2 y3 y4 y5 y6 y7 y8 y9
 refine (implM_callD k c s lo hi c' s' lo' hi' c1 s1 aa ab h1 r1 R1 t2 (U.out.below M4.out.l).s (U'.out.below M4.out.l).s K5.out).mono ?_
 rintro e w5 ⟨xm,ym,zm,am,bm,rfl,hs,hm,hb⟩
 have M5 := mkA (M4.out.below hb)
 replace J := mkA (J.out.below hb)
 have MM := mkA hs
 have NM := mkA hm
 clear hs hm hb
 have hb := below_alloc (Below.refl _ w5) (.cells #[vi c1,vi s1,vi aa,vi ab,.slice xm.A xm.n xm.c,.slice ym.A ym.n ym.c,.slice zm.A zm.n zm.c] 27)
 have M6 := mkA (M5.out.below hb)
 have X8 := mkA (Bx.new w5 27 #[vi c1,vi s1,vi aa,vi ab,.slice xm.A xm.n xm.c,.slice ym.A ym.n ym.c,.slice zm.A zm.n zm.c])
 replace J := mkA (J.out.below hb)
 replace MM := mkA (MM.out.below hb)
 have N5 := mkA (And.intro M3.out.n (And.intro M5.out.n hb.size))
 clear hb
 obtain ⟨x0,x1,x2,x3,x4,x5,x6,x7,x8,x9⟩ := M6.out.a.cells10
 obtain ⟨o0,o1,o2,o3,o4,o5,o6,o7,o8,o9⟩ := M6.out.o.cells10
 have fo := M6.out.o.fz
 go_wp2
 refine bodyPost_ret (results_ct rfl _ _ (w.heap.size + 1 + 1) 34 #[vi ke,vi wi,.slice qj.A qj.n qj.c,vi c1,vi s1,vi aa,vi ab,.slice xm.A xm.n xm.c,.slice ym.A ym.n ym.c,.slice zm.A zm.n zm.c] (0,0) _ rfl (M6.out.o.fill10 _ _ _ _ _ _ _ _ _ _ ).1 Try.underlying34 rfl (by kernel_rfl)) rfl ?_
 have n1 := NJ.out
 have n2 := NM.out
 have n5 := N5.out
 unfold Made at n1 n2
 exact ⟨qj,xm,ym,zm,aj,bm,rfl,M6.out.endEk (M6.out.o.fill10 _ _ _ _ _ _ _ _ _ _ ).2 ⟨Qk.wide J.out (Nat.le_refl _) (by omega),Sk.wide MM.out (by omega) (Nat.le_refl _)⟩ (by omega) (by omega) (by omega)⟩
theorem spec_l6Add.walk (k : Nat) {w : World} {q x y z q' x' y' z' : Sl} {l l' : List S70} {h r h' r' : List Int} {R R' : List (List Int)} (ke wi c s lo hi ke' wi' c' s' lo' hi' c1 s1 aa ab : Int) (u : Ed w q x y z l h r R) (u' : Ed w q' x' y' z' l' h' r' R') (l1 : List S70) (h1 r1 : List Int) (R1 : List (List Int)) (K4 : Aside0 (spec_l5Join.f k l l' = some l1)) (K5 : Aside0 (spec_l3Merge.f k c s lo hi h r R c' s' lo' hi' h' r' R' = some (c1,s1,aa,ab,h1,r1,R1))) :
  Calls Try.prog 63 #[.agg #[vi ke,vi wi,.slice q.A q.n q.c,vi c,vi s,vi lo,vi hi,.slice x.A x.n x.c,.slice y.A y.n y.c,.slice z.A z.n z.c],.agg #[vi ke',vi wi',.slice q'.A q'.n q'.c,vi c',vi s',vi lo',vi hi',.slice x'.A x'.n x'.c,.slice y'.A y'.n y'.c,.slice z'.A z'.n z'.c]] w (fun e w' => ∃ (q1 x1 y1 z1 : Sl) (a b : Nat),e = .returned (.agg #[vi ke,vi wi,.slice q1.A q1.n q1.c,vi c1,vi s1,vi aa,vi ab,.slice x1.A x1.n x1.c,.slice y1.A y1.n y1.c,.slice z1.A z1.n z1.c]) ∧ Er w' a b q1 x1 y1 z1 l1 h1 r1 R1 ∧ Made w w' a b ∧ Below w.heap.size w w') := by
 have U := mkA u
 have U' := mkA u'
 clear u u'
 go_enter Try.func63,Try.ntmps63
 have M0 := mkA (ea_in w #[vi ke,vi wi,.slice q.A q.n q.c,vi c,vi s,vi lo,vi hi,.slice x.A x.n x.c,.slice y.A y.n y.c,.slice z.A z.n z.c] #[vi ke',vi wi',.slice q'.A q'.n q'.c,vi c',vi s',vi lo',vi hi',.slice x'.A x'.n x'.c,.slice y'.A y'.n y'.c,.slice z'.A z'.n z'.c])
 have LS := mkA (show ∀ W',Bx W' (w.heap.size) 34 #[vi ke,vi wi,.slice q.A q.n q.c,vi c,vi s,vi lo,vi hi,.slice x.A x.n x.c,.slice y.A y.n y.c,.slice z.A z.n z.c] → Bx W' (w.heap.size + 1) 34 #[vi ke',vi wi',.slice q'.A q'.n q'.c,vi c',vi s',vi lo',vi hi',.slice x'.A x'.n x'.c,.slice y'.A y'.n y'.c,.slice z'.A z'.n z'.c] → (fun w' : World => w'.cell? ⟨w.heap.size,0,none⟩ = some (vi ke) ∧ w'.cell? ⟨w.heap.size,1,none⟩ = some (vi wi) ∧ w'.cell? ⟨w.heap.size,2,none⟩ = some (.slice q.A q.n q.c) ∧ w'.cell? ⟨w.heap.size,3,none⟩ = some (vi c) ∧ w'.cell? ⟨w.heap.size,4,none⟩ = some (vi s) ∧ w'.cell? ⟨w.heap.size,5,none⟩ = some (vi lo) ∧ w'.cell? ⟨w.heap.size,6,none⟩ = some (vi hi) ∧ w'.cell? ⟨w.heap.size,7,none⟩ = some (.slice x.A x.n x.c) ∧ w'.cell? ⟨w.heap.size,8,none⟩ = some (.slice y.A y.n y.c) ∧ w'.cell? ⟨w.heap.size,9,none⟩ = some (.slice z.A z.n z.c) ∧ w'.cell? ⟨w.heap.size + 1,0,none⟩ = some (vi ke') ∧ w'.cell? ⟨w.heap.size + 1,1,none⟩ = some (vi wi') ∧ w'.cell? ⟨w.heap.size + 1,2,none⟩ = some (.slice q'.A q'.n q'.c) ∧ w'.cell? ⟨w.heap.size + 1,3,none⟩ = some (vi c') ∧ w'.cell? ⟨w.heap.size + 1,4,none⟩ = some (vi s') ∧ w'.cell? ⟨w.heap.size + 1,5,none⟩ = some (vi lo') ∧ w'.cell? ⟨w.heap.size + 1,6,none⟩ = some (vi hi') ∧ w'.cell? ⟨w.heap.size + 1,7,none⟩ = some (.slice x'.A x'.n x'.c) ∧ w'.cell? ⟨w.heap.size + 1,8,none⟩ = some (.slice y'.A y'.n y'.c) ∧ w'.cell? ⟨w.heap.size + 1,9,none⟩ = some (.slice z'.A z'.n z'.c)) W' from fun W' ba bb => by obtain ⟨x0,x1,x2,x3,x4,x5,x6,x7,x8,x9⟩ := ba.cells10;obtain ⟨y0,y1,y2,y3,y4,y5,y6,y7,y8,y9⟩ := bb.cells10;exact ⟨x0,x1,x2,x3,x4,x5,x6,x7,x8,x9,y0,y1,y2,y3,y4,y5,y6,y7,y8,y9⟩)
 go_wp2_with fail
 have M := mkA (M0.out.below (below_drew (Below.refl _ _)))
 have MB := mkA M0.out.n
 obtain ⟨x0,x1,x2,x3,x4,x5,x6,x7,x8,x9⟩ := M0.out.a.cells10
 obtain ⟨y0,y1,y2,y3,y4,y5,y6,y7,y8,y9⟩ := M0.out.b.cells10
 clear M0
 go_region_held3 (fun w' : World => w'.cell? ⟨w.heap.size,0,none⟩ = some (vi ke) ∧ w'.cell? ⟨w.heap.size,1,none⟩ = some (vi wi) ∧ w'.cell? ⟨w.heap.size,2,none⟩ = some (.slice q.A q.n q.c) ∧ w'.cell? ⟨w.heap.size,3,none⟩ = some (vi c) ∧ w'.cell? ⟨w.heap.size,4,none⟩ = some (vi s) ∧ w'.cell? ⟨w.heap.size,5,none⟩ = some (vi lo) ∧ w'.cell? ⟨w.heap.size,6,none⟩ = some (vi hi) ∧ w'.cell? ⟨w.heap.size,7,none⟩ = some (.slice x.A x.n x.c) ∧ w'.cell? ⟨w.heap.size,8,none⟩ = some (.slice y.A y.n y.c) ∧ w'.cell? ⟨w.heap.size,9,none⟩ = some (.slice z.A z.n z.c) ∧ w'.cell? ⟨w.heap.size + 1,0,none⟩ = some (vi ke') ∧ w'.cell? ⟨w.heap.size + 1,1,none⟩ = some (vi wi') ∧ w'.cell? ⟨w.heap.size + 1,2,none⟩ = some (.slice q'.A q'.n q'.c) ∧ w'.cell? ⟨w.heap.size + 1,3,none⟩ = some (vi c') ∧ w'.cell? ⟨w.heap.size + 1,4,none⟩ = some (vi s') ∧ w'.cell? ⟨w.heap.size + 1,5,none⟩ = some (vi lo') ∧ w'.cell? ⟨w.heap.size + 1,6,none⟩ = some (vi hi') ∧ w'.cell? ⟨w.heap.size + 1,7,none⟩ = some (.slice x'.A x'.n x'.c) ∧ w'.cell? ⟨w.heap.size + 1,8,none⟩ = some (.slice y'.A y'.n y'.c) ∧ w'.cell? ⟨w.heap.size + 1,9,none⟩ = some (.slice z'.A z'.n z'.c)) (first | with_reducible exact LS.out _ M.out.a M.out.b | with_reducible exact KS.out _ _ _ _ _ _ _ _ _ _ ) (first | (go_at_call 93;(with_reducible refine (l5_callD k (U.out.below M.out.l).q (U'.out.below M.out.l).q K4.out).mono ?_);rintro e wz ⟨qj,aj,bj,rfl,hs,hm,hb⟩;(try (replace MM := mkA (MM.out.below hb)));have J := mkA hs;have NJ := mkA (And.intro M.out.n hm);replace M := mkA (M.out.below hb);clear hs hm hb;obtain ⟨o0,o1,o2,o3,o4,o5,o6,o7,o8,o9⟩ := M.out.o.cells10;have fo := M.out.o.fz;have KS := mkA (fun av aw ax ay az aA aB aC aD aE : Value => LS.out _ (M.out.a.kp (M.out.o.fill10 av aw ax ay az aA aB aC aD aE).2 (.inl (by omega))) (M.out.b.kp (M.out.o.fill10 av aw ax ay az aA aB aC aD aE).2 (.inl (by omega))))) | (go_at_call 94;(with_reducible refine (l3_callD k c s lo hi c' s' lo' hi' c1 s1 aa ab h1 r1 R1 (U.out.below M.out.l).s (U'.out.below M.out.l).s K5.out).mono ?_);rintro e wz ⟨xm,ym,zm,am,bm,rfl,hs,hm,hb⟩;(try (replace J := mkA (J.out.below hb)));have MM := mkA hs;have NM := mkA (And.intro M.out.n hm);replace M := mkA (M.out.below hb);clear hs hm hb;obtain ⟨o0,o1,o2,o3,o4,o5,o6,o7,o8,o9⟩ := M.out.o.cells10;have fo := M.out.o.fz;have KS := mkA (fun av aw ax ay az aA aB aC aD aE : Value => LS.out _ (M.out.a.kp (M.out.o.fill10 av aw ax ay az aA aB aC aD aE).2 (.inl (by omega))) (M.out.b.kp (M.out.o.fill10 av aw ax ay az aA aB aC aD aE).2 (.inl (by omega))))))
 all_goals
  go_wp2
  refine bodyPost_ret (results_cell_row rfl _ _ (w.heap.size + 1 + 1) 34 #[vi ke,vi wi,.slice qj.A qj.n qj.c,vi c1,vi s1,vi aa,vi ab,.slice xm.A xm.n xm.c,.slice ym.A ym.n ym.c,.slice zm.A zm.n zm.c] (0,0) _ rfl (M.out.o.fill10 _ _ _ _ _ _ _ _ _ _ ).1 Try.underlying34 rfl (by kernel_rfl)) rfl ?_;have n1 := NJ.out;have n2 := NM.out;unfold Made at n1 n2;exact ⟨qj,xm,ym,zm,w.heap.size + 3,wz.heap.size,rfl,M.out.endEr (M.out.o.fill10 _ _ _ _ _ _ _ _ _ _ ).2 ⟨Qk.wide J.out (by omega) (by omega),Rk.wide MM.out (by omega) (by omega)⟩ (Nat.le_refl _) (by omega) (Nat.le_refl _)⟩
theorem spec_EntryAdd.w1 (k : Nat) {w : World} {q x y z q' x' y' z' : Sl} {l l' : List S70} {h r h' r' : List Int} {R R' : List (List Int)} (ke wi c s lo hi ke' wi' c' s' lo' hi' : Int) (U : Aside0 (Ed w q x y z l h r R)) (U' : Aside0 (Ed w q' x' y' z' l' h' r' R')) (K1 : Aside0 (spec_EntryOk.f k ke wi l c s lo hi h r R = some false)) :
  Calls Try.prog 28 #[.agg #[vi ke,vi wi,.slice q.A q.n q.c,vi c,vi s,vi lo,vi hi,.slice x.A x.n x.c,.slice y.A y.n y.c,.slice z.A z.n z.c],.agg #[vi ke',vi wi',.slice q'.A q'.n q'.c,vi c',vi s',vi lo',vi hi',.slice x'.A x'.n x'.c,.slice y'.A y'.n y'.c,.slice z'.A z'.n z'.c]] w (fun e w' => ∃ (q1 x1 y1 z1 : Sl) (a b : Nat),e = .returned (.tuple #[.agg #[vi 0,vi 0,.slice q1.A q1.n q1.c,vi 0,vi 0,vi 0,vi 0,.slice x1.A x1.n x1.c,.slice y1.A y1.n y1.c,.slice z1.A z1.n z1.c],.bool false]) ∧ Er w' a b q1 x1 y1 z1 [] [] [] [] ∧ Made w w' a b ∧ Below w.heap.size w w') := by
 go_enter Try.func28,Try.ntmps28
 have M0 := mkA (ea_in w #[vi ke,vi wi,.slice q.A q.n q.c,vi c,vi s,vi lo,vi hi,.slice x.A x.n x.c,.slice y.A y.n y.c,.slice z.A z.n z.c] #[vi ke',vi wi',.slice q'.A q'.n q'.c,vi c',vi s',vi lo',vi hi',.slice x'.A x'.n x'.c,.slice y'.A y'.n y'.c,.slice z'.A z'.n z'.c])
 go_wp2_with fail
 refine (specOk_callD k ke wi c s lo hi false (U.out.below M0.out.l) K1.out).mono ?_
 rintro e w1 ⟨rfl,hb⟩
 have M1 := mkA (M0.out.below hb)
 obtain ⟨o0,o1,o2,o3,o4,o5,o6,o7,o8,o9⟩ := M1.out.o.cells10
 have fo := M1.out.o.fz
 go_wp2
 refine bodyPost_ret (results_ct rfl _ _ (w.heap.size + 1 + 1) 34 #[vi 0,vi 0,.slice none 0 0,vi 0,vi 0,vi 0,vi 0,.slice none 0 0,.slice none 0 0,.slice none 0 0] (0,0) _ rfl (M1.out.o.fill10 _ _ _ _ _ _ _ _ _ _ ).1 Try.underlying34 rfl (by kernel_rfl)) rfl ?_
 exact M1.out.zeroEr (M1.out.o.fill10 _ _ _ _ _ _ _ _ _ _ ).2
theorem spec_EntryAdd.w2 (k : Nat) {w : World} {q x y z q' x' y' z' : Sl} {l l' : List S70} {h r h' r' : List Int} {R R' : List (List Int)} (ke wi c s lo hi ke' wi' c' s' lo' hi' : Int) (U : Aside0 (Ed w q x y z l h r R)) (U' : Aside0 (Ed w q' x' y' z' l' h' r' R')) (K1 : Aside0 (spec_EntryOk.f k ke wi l c s lo hi h r R = some true)) (K2 : Aside0 (spec_EntryOk.f k ke' wi' l' c' s' lo' hi' h' r' R' = some false)) :
  Calls Try.prog 28 #[.agg #[vi ke,vi wi,.slice q.A q.n q.c,vi c,vi s,vi lo,vi hi,.slice x.A x.n x.c,.slice y.A y.n y.c,.slice z.A z.n z.c],.agg #[vi ke',vi wi',.slice q'.A q'.n q'.c,vi c',vi s',vi lo',vi hi',.slice x'.A x'.n x'.c,.slice y'.A y'.n y'.c,.slice z'.A z'.n z'.c]] w (fun e w' => ∃ (q1 x1 y1 z1 : Sl) (a b : Nat),e = .returned (.tuple #[.agg #[vi 0,vi 0,.slice q1.A q1.n q1.c,vi 0,vi 0,vi 0,vi 0,.slice x1.A x1.n x1.c,.slice y1.A y1.n y1.c,.slice z1.A z1.n z1.c],.bool false]) ∧ Er w' a b q1 x1 y1 z1 [] [] [] [] ∧ Made w w' a b ∧ Below w.heap.size w w') := by
 go_enter Try.func28,Try.ntmps28
 have M0 := mkA (ea_in w #[vi ke,vi wi,.slice q.A q.n q.c,vi c,vi s,vi lo,vi hi,.slice x.A x.n x.c,.slice y.A y.n y.c,.slice z.A z.n z.c] #[vi ke',vi wi',.slice q'.A q'.n q'.c,vi c',vi s',vi lo',vi hi',.slice x'.A x'.n x'.c,.slice y'.A y'.n y'.c,.slice z'.A z'.n z'.c])
 go_wp2_with fail
 refine (specOk_callD k ke wi c s lo hi true (U.out.below M0.out.l) K1.out).mono ?_
 rintro e w1 ⟨rfl,hb⟩
 have M1 := mkA (M0.out.below hb)
 obtain ⟨y0,y1,y2,y3,y4,y5,y6,y7,y8,y9⟩ := M1.out.b.cells10
 go_wp2_with fail
 clear y0 y1 y2 y3 y4 y5 y6 y7 y8 y9
 refine (specOk_callD k ke' wi' c' s' lo' hi' false (U'.out.below M1.out.l) K2.out).mono ?_
 rintro e w2 ⟨rfl,hb⟩
 have M2 := mkA (M1.out.below hb)
 obtain ⟨o0,o1,o2,o3,o4,o5,o6,o7,o8,o9⟩ := M2.out.o.cells10
 have fo := M2.out.o.fz
 go_wp2
 refine bodyPost_ret (results_ct rfl _ _ (w.heap.size + 1 + 1) 34 #[vi 0,vi 0,.slice none 0 0,vi 0,vi 0,vi 0,vi 0,.slice none 0 0,.slice none 0 0,.slice none 0 0] (0,0) _ rfl (M2.out.o.fill10 _ _ _ _ _ _ _ _ _ _ ).1 Try.underlying34 rfl (by kernel_rfl)) rfl ?_
 exact M2.out.zeroEr (M2.out.o.fill10 _ _ _ _ _ _ _ _ _ _ ).2
theorem spec_EntryAdd.w3 (k : Nat) {w : World} {q x y z q' x' y' z' : Sl} {l l' : List S70} {h r h' r' : List Int} {R R' : List (List Int)} (ke wi c s lo hi ke' wi' c' s' lo' hi' : Int) (U : Aside0 (Ed w q x y z l h r R)) (U' : Aside0 (Ed w q' x' y' z' l' h' r' R')) (K1 : Aside0 (spec_EntryOk.f k ke wi l c s lo hi h r R = some true)) (K2 : Aside0 (spec_EntryOk.f k ke' wi' l' c' s' lo' hi' h' r' R' = some true)) (HN : Aside0 (¬ ke = ke')) :
  Calls Try.prog 28 #[.agg #[vi ke,vi wi,.slice q.A q.n q.c,vi c,vi s,vi lo,vi hi,.slice x.A x.n x.c,.slice y.A y.n y.c,.slice z.A z.n z.c],.agg #[vi ke',vi wi',.slice q'.A q'.n q'.c,vi c',vi s',vi lo',vi hi',.slice x'.A x'.n x'.c,.slice y'.A y'.n y'.c,.slice z'.A z'.n z'.c]] w (fun e w' => ∃ (q1 x1 y1 z1 : Sl) (a b : Nat),e = .returned (.tuple #[.agg #[vi 0,vi 0,.slice q1.A q1.n q1.c,vi 0,vi 0,vi 0,vi 0,.slice x1.A x1.n x1.c,.slice y1.A y1.n y1.c,.slice z1.A z1.n z1.c],.bool false]) ∧ Er w' a b q1 x1 y1 z1 [] [] [] [] ∧ Made w w' a b ∧ Below w.heap.size w w') := by
 go_enter Try.func28,Try.ntmps28
 have M0 := mkA (ea_in w #[vi ke,vi wi,.slice q.A q.n q.c,vi c,vi s,vi lo,vi hi,.slice x.A x.n x.c,.slice y.A y.n y.c,.slice z.A z.n z.c] #[vi ke',vi wi',.slice q'.A q'.n q'.c,vi c',vi s',vi lo',vi hi',.slice x'.A x'.n x'.c,.slice y'.A y'.n y'.c,.slice z'.A z'.n z'.c])
 go_wp2_with fail
 refine (specOk_callD k ke wi c s lo hi true (U.out.below M0.out.l) K1.out).mono ?_
 rintro e w1 ⟨rfl,hb⟩
 have M1 := mkA (M0.out.below hb)
 obtain ⟨y0,y1,y2,y3,y4,y5,y6,y7,y8,y9⟩ := M1.out.b.cells10
 go_wp2_with fail
 clear y0 y1 y2 y3 y4 y5 y6 y7 y8 y9
 refine (specOk_callD k ke' wi' c' s' lo' hi' true (U'.out.below M1.out.l) K2.out).mono ?_
 rintro e w2 ⟨rfl,hb⟩
 have M2 := mkA (M1.out.below hb)
 obtain ⟨x0,x1,x2,x3,x4,x5,x6,x7,x8,x9⟩ := M2.out.a.cells10
 obtain ⟨y0,y1,y2,y3,y4,y5,y6,y7,y8,y9⟩ := M2.out.b.cells10
 have hne := HN.out
 obtain ⟨o0,o1,o2,o3,o4,o5,o6,o7,o8,o9⟩ := M2.out.o.cells10
 have fo := M2.out.o.fz
 go_wp2
 refine bodyPost_ret (results_ct rfl _ _ (w.heap.size + 1 + 1) 34 #[vi 0,vi 0,.slice none 0 0,vi 0,vi 0,vi 0,vi 0,.slice none 0 0,.slice none 0 0,.slice none 0 0] (0,0) _ rfl (M2.out.o.fill10 _ _ _ _ _ _ _ _ _ _ ).1 Try.underlying34 rfl (by kernel_rfl)) rfl ?_
 exact M2.out.zeroEr (M2.out.o.fill10 _ _ _ _ _ _ _ _ _ _ ).2
theorem spec_EntryAdd.w4 (k : Nat) {w : World} {q x y z q' x' y' z' : Sl} {l l' : List S70} {h r h' r' : List Int} {R R' : List (List Int)} (ke wi c s lo hi wi' c' s' lo' hi' : Int) (U : Aside0 (Ed w q x y z l h r R)) (U' : Aside0 (Ed w q' x' y' z' l' h' r' R')) (K1 : Aside0 (spec_EntryOk.f k ke wi l c s lo hi h r R = some true)) (K2 : Aside0 (spec_EntryOk.f k ke wi' l' c' s' lo' hi' h' r' R' = some true)) (HN : Aside0 (¬ wi = wi')) :
  Calls Try.prog 28 #[.agg #[vi ke,vi wi,.slice q.A q.n q.c,vi c,vi s,vi lo,vi hi,.slice x.A x.n x.c,.slice y.A y.n y.c,.slice z.A z.n z.c],.agg #[vi ke,vi wi',.slice q'.A q'.n q'.c,vi c',vi s',vi lo',vi hi',.slice x'.A x'.n x'.c,.slice y'.A y'.n y'.c,.slice z'.A z'.n z'.c]] w (fun e w' => ∃ (q1 x1 y1 z1 : Sl) (a b : Nat),e = .returned (.tuple #[.agg #[vi 0,vi 0,.slice q1.A q1.n q1.c,vi 0,vi 0,vi 0,vi 0,.slice x1.A x1.n x1.c,.slice y1.A y1.n y1.c,.slice z1.A z1.n z1.c],.bool false]) ∧ Er w' a b q1 x1 y1 z1 [] [] [] [] ∧ Made w w' a b ∧ Below w.heap.size w w') := by
 go_enter Try.func28,Try.ntmps28
 have M0 := mkA (ea_in w #[vi ke,vi wi,.slice q.A q.n q.c,vi c,vi s,vi lo,vi hi,.slice x.A x.n x.c,.slice y.A y.n y.c,.slice z.A z.n z.c] #[vi ke,vi wi',.slice q'.A q'.n q'.c,vi c',vi s',vi lo',vi hi',.slice x'.A x'.n x'.c,.slice y'.A y'.n y'.c,.slice z'.A z'.n z'.c])
 go_wp2_with fail
 refine (specOk_callD k ke wi c s lo hi true (U.out.below M0.out.l) K1.out).mono ?_
 rintro e w1 ⟨rfl,hb⟩
 have M1 := mkA (M0.out.below hb)
 obtain ⟨y0,y1,y2,y3,y4,y5,y6,y7,y8,y9⟩ := M1.out.b.cells10
 go_wp2_with fail
 clear y0 y1 y2 y3 y4 y5 y6 y7 y8 y9
 refine (specOk_callD k ke wi' c' s' lo' hi' true (U'.out.below M1.out.l) K2.out).mono ?_
 rintro e w2 ⟨rfl,hb⟩
 have M2 := mkA (M1.out.below hb)
 obtain ⟨x0,x1,x2,x3,x4,x5,x6,x7,x8,x9⟩ := M2.out.a.cells10
 obtain ⟨y0,y1,y2,y3,y4,y5,y6,y7,y8,y9⟩ := M2.out.b.cells10
 have hne := HN.out
 obtain ⟨o0,o1,o2,o3,o4,o5,o6,o7,o8,o9⟩ := M2.out.o.cells10
 have fo := M2.out.o.fz
 go_wp2
 refine bodyPost_ret (results_ct rfl _ _ (w.heap.size + 1 + 1) 34 #[vi 0,vi 0,.slice none 0 0,vi 0,vi 0,vi 0,vi 0,.slice none 0 0,.slice none 0 0,.slice none 0 0] (0,0) _ rfl (M2.out.o.fill10 _ _ _ _ _ _ _ _ _ _ ).1 Try.underlying34 rfl (by kernel_rfl)) rfl ?_
 exact M2.out.zeroEr (M2.out.o.fill10 _ _ _ _ _ _ _ _ _ _ ).2
theorem spec_EntryAdd.w5 (k : Nat) {w : World} {q x y z q' x' y' z' : Sl} {l l' : List S70} {h r h' r' : List Int} {R R' : List (List Int)} (ke wi c s lo hi c' s' lo' hi' : Int) (U : Aside0 (Ed w q x y z l h r R)) (U' : Aside0 (Ed w q' x' y' z' l' h' r' R')) (K1 : Aside0 (spec_EntryOk.f k ke wi l c s lo hi h r R = some true)) (K2 : Aside0 (spec_EntryOk.f k ke wi l' c' s' lo' hi' h' r' R' = some true)) (K3 : Aside0 (spec_SetApart.f k l l' = some false)) :
  Calls Try.prog 28 #[.agg #[vi ke,vi wi,.slice q.A q.n q.c,vi c,vi s,vi lo,vi hi,.slice x.A x.n x.c,.slice y.A y.n y.c,.slice z.A z.n z.c],.agg #[vi ke,vi wi,.slice q'.A q'.n q'.c,vi c',vi s',vi lo',vi hi',.slice x'.A x'.n x'.c,.slice y'.A y'.n y'.c,.slice z'.A z'.n z'.c]] w (fun e w' => ∃ (q1 x1 y1 z1 : Sl) (a b : Nat),e = .returned (.tuple #[.agg #[vi 0,vi 0,.slice q1.A q1.n q1.c,vi 0,vi 0,vi 0,vi 0,.slice x1.A x1.n x1.c,.slice y1.A y1.n y1.c,.slice z1.A z1.n z1.c],.bool false]) ∧ Er w' a b q1 x1 y1 z1 [] [] [] [] ∧ Made w w' a b ∧ Below w.heap.size w w') := by
 go_enter Try.func28,Try.ntmps28
 have M0 := mkA (ea_in w #[vi ke,vi wi,.slice q.A q.n q.c,vi c,vi s,vi lo,vi hi,.slice x.A x.n x.c,.slice y.A y.n y.c,.slice z.A z.n z.c] #[vi ke,vi wi,.slice q'.A q'.n q'.c,vi c',vi s',vi lo',vi hi',.slice x'.A x'.n x'.c,.slice y'.A y'.n y'.c,.slice z'.A z'.n z'.c])
 go_wp2_with fail
 refine (specOk_callD k ke wi c s lo hi true (U.out.below M0.out.l) K1.out).mono ?_
 rintro e w1 ⟨rfl,hb⟩
 have M1 := mkA (M0.out.below hb)
 obtain ⟨y0,y1,y2,y3,y4,y5,y6,y7,y8,y9⟩ := M1.out.b.cells10
 go_wp2_with fail
 clear y0 y1 y2 y3 y4 y5 y6 y7 y8 y9
 refine (specOk_callD k ke wi c' s' lo' hi' true (U'.out.below M1.out.l) K2.out).mono ?_
 rintro e w2 ⟨rfl,hb⟩
 have M2 := mkA (M1.out.below hb)
 obtain ⟨x0,x1,x2,x3,x4,x5,x6,x7,x8,x9⟩ := M2.out.a.cells10
 obtain ⟨y0,y1,y2,y3,y4,y5,y6,y7,y8,y9⟩ := M2.out.b.cells10
 go_wp2_with fail
 clear x0 x1 x2 x3 x4 x5 x6 x7 x8 x9 y0 y1 y2 y3 y4 y5 y6 y7 y8 y9
 refine (specApart_callD k false (U.out.below M2.out.l).q (U'.out.below M2.out.l).q K3.out).mono ?_
 rintro e w3 ⟨rfl,hb⟩
 have M3 := mkA (M2.out.below hb)
 obtain ⟨o0,o1,o2,o3,o4,o5,o6,o7,o8,o9⟩ := M3.out.o.cells10
 have fo := M3.out.o.fz
 go_wp2
 refine bodyPost_ret (results_ct rfl _ _ (w.heap.size + 1 + 1) 34 #[vi 0,vi 0,.slice none 0 0,vi 0,vi 0,vi 0,vi 0,.slice none 0 0,.slice none 0 0,.slice none 0 0] (0,0) _ rfl (M3.out.o.fill10 _ _ _ _ _ _ _ _ _ _ ).1 Try.underlying34 rfl (by kernel_rfl)) rfl ?_
 exact M3.out.zeroEr (M3.out.o.fill10 _ _ _ _ _ _ _ _ _ _ ).2
theorem spec_EntryAdd.w6 (k : Nat) {w : World} {q x y z q' x' y' z' : Sl} {l l' : List S70} {h r h' r' : List Int} {R R' : List (List Int)} (ke wi c s lo hi c' s' lo' hi' c1 s1 aa ab : Int) (l1 : List S70) (h1 r1 : List Int) (R1 : List (List Int)) (U : Aside0 (Ed w q x y z l h r R)) (U' : Aside0 (Ed w q' x' y' z' l' h' r' R')) (K1 : Aside0 (spec_EntryOk.f k ke wi l c s lo hi h r R = some true)) (K2 : Aside0 (spec_EntryOk.f k ke wi l' c' s' lo' hi' h' r' R' = some true)) (K3 : Aside0 (spec_SetApart.f k l l' = some true)) (K4 : Aside0 (spec_l5Join.f k l l' = some l1)) (K5 : Aside0 (spec_l3Merge.f k c s lo hi h r R c' s' lo' hi' h' r' R' = some (c1,s1,aa,ab,h1,r1,R1))) :
  Calls Try.prog 28 #[.agg #[vi ke,vi wi,.slice q.A q.n q.c,vi c,vi s,vi lo,vi hi,.slice x.A x.n x.c,.slice y.A y.n y.c,.slice z.A z.n z.c],.agg #[vi ke,vi wi,.slice q'.A q'.n q'.c,vi c',vi s',vi lo',vi hi',.slice x'.A x'.n x'.c,.slice y'.A y'.n y'.c,.slice z'.A z'.n z'.c]] w (fun e w' => ∃ (q1 x1 y1 z1 : Sl) (a b : Nat),e = .returned (.tuple #[.agg #[vi ke,vi wi,.slice q1.A q1.n q1.c,vi c1,vi s1,vi aa,vi ab,.slice x1.A x1.n x1.c,.slice y1.A y1.n y1.c,.slice z1.A z1.n z1.c],.bool true]) ∧ Er w' a b q1 x1 y1 z1 l1 h1 r1 R1 ∧ Made w w' a b ∧ Below w.heap.size w w') := by
 go_enter Try.func28,Try.ntmps28
 have M0 := mkA (ea_in w #[vi ke,vi wi,.slice q.A q.n q.c,vi c,vi s,vi lo,vi hi,.slice x.A x.n x.c,.slice y.A y.n y.c,.slice z.A z.n z.c] #[vi ke,vi wi,.slice q'.A q'.n q'.c,vi c',vi s',vi lo',vi hi',.slice x'.A x'.n x'.c,.slice y'.A y'.n y'.c,.slice z'.A z'.n z'.c])
 go_wp2_with fail
 refine (specOk_callD k ke wi c s lo hi true (U.out.below M0.out.l) K1.out).mono ?_
 rintro e w1 ⟨rfl,hb⟩
 have M1 := mkA (M0.out.below hb)
 obtain ⟨y0,y1,y2,y3,y4,y5,y6,y7,y8,y9⟩ := M1.out.b.cells10
 go_wp2_with fail
 clear y0 y1 y2 y3 y4 y5 y6 y7 y8 y9
 refine (specOk_callD k ke wi c' s' lo' hi' true (U'.out.below M1.out.l) K2.out).mono ?_
 rintro e w2 ⟨rfl,hb⟩
 have M2 := mkA (M1.out.below hb)
 obtain ⟨x0,x1,x2,x3,x4,x5,x6,x7,x8,x9⟩ := M2.out.a.cells10
 obtain ⟨y0,y1,y2,y3,y4,y5,y6,y7,y8,y9⟩ := M2.out.b.cells10
 go_wp2_with fail
 clear x0 x1 x2 x3 x4 x5 x6 x7 x8 x9 y0 y1 y2 y3 y4 y5 y6 y7 y8 y9
 refine (specApart_callD k true (U.out.below M2.out.l).q (U'.out.below M2.out.l).q K3.out).mono ?_
 rintro e w3 ⟨rfl,hb⟩
 have M3 := mkA (M2.out.below hb)
 obtain ⟨x0,x1,x2,x3,x4,x5,x6,x7,x8,x9⟩ := M3.out.a.cells10
 obtain ⟨y0,y1,y2,y3,y4,y5,y6,y7,y8,y9⟩ := M3.out.b.cells10
 go_wp2_with fail
 clear x0 x1 x2 x3 x4 x5 x6 x7 x8 x9 y0 y1 y2 y3 y4 y5 y6 y7 y8 y9
 refine (spec_l6Add.walk k ke wi c s lo hi ke wi c' s' lo' hi' c1 s1 aa ab (U.out.below M3.out.l) (U'.out.below M3.out.l) l1 h1 r1 R1 K4 K5).mono ?_
 rintro e w4 ⟨q6,x6,y6,z6,a6,b6,rfl,hs,hm,hb⟩
 have M4 := mkA (M3.out.below hb)
 have E6 := mkA hs
 have n1 := hm
 clear hs hm
 unfold Made at n1
 have n2 := M3.out.n
 have NN := mkA (And.intro n1 n2)
 clear n1 n2 hb
 obtain ⟨o0,o1,o2,o3,o4,o5,o6,o7,o8,o9⟩ := M4.out.o.cells10
 have fo := M4.out.o.fz
 go_wp2
 refine bodyPost_ret (results_ct rfl _ _ (w.heap.size + 1 + 1) 34 #[vi ke,vi wi,.slice q6.A q6.n q6.c,vi c1,vi s1,vi aa,vi ab,.slice x6.A x6.n x6.c,.slice y6.A y6.n y6.c,.slice z6.A z6.n z6.c] (0,0) _ rfl (M4.out.o.fill10 _ _ _ _ _ _ _ _ _ _ ).1 Try.underlying34 rfl (by kernel_rfl)) rfl ?_
 have n1 := NN.out
 exact ⟨q6,x6,y6,z6,a6,b6,rfl,M4.out.endEr (M4.out.o.fill10 _ _ _ _ _ _ _ _ _ _ ).2 E6.out (by omega) (by omega) (by omega)⟩
def SpecA (ke wi : Int) (l : List S70) (c s lo hi : Int) (h r : List Int) (R : List (List Int)) (ke' wi' : Int) (l' : List S70) (c' s' lo' hi' : Int) (h' r' : List Int) (R' : List (List Int)) (e1 e2 : Int) (l1 : List S70) (c1 s1 aa ab : Int) (h1 r1 : List Int) (R1 : List (List Int)) (t : Bool) : Prop := ∀ (w : World) (q x y z q' x' y' z' : Sl),Ed w q x y z l h r R → Ed w q' x' y' z' l' h' r' R' → Calls Try.prog 28 #[.agg #[vi ke,vi wi,.slice q.A q.n q.c,vi c,vi s,vi lo,vi hi,.slice x.A x.n x.c,.slice y.A y.n y.c,.slice z.A z.n z.c],.agg #[vi ke',vi wi',.slice q'.A q'.n q'.c,vi c',vi s',vi lo',vi hi',.slice x'.A x'.n x'.c,.slice y'.A y'.n y'.c,.slice z'.A z'.n z'.c]] w fun e w' => ∃ (q1 x1 y1 z1 : Sl) (a b : Nat),e = .returned (.tuple #[.agg #[vi e1,vi e2,.slice q1.A q1.n q1.c,vi c1,vi s1,vi aa,vi ab,.slice x1.A x1.n x1.c,.slice y1.A y1.n y1.c,.slice z1.A z1.n z1.c],.bool t]) ∧ Er w' a b q1 x1 y1 z1 l1 h1 r1 R1 ∧ Made w w' a b ∧ Below w.heap.size w w'
theorem specA_callD (k : Nat) {w : World} {q x y z q' x' y' z' : Sl} {l l' : List S70} {h r h' r' : List Int} {R R' : List (List Int)} (ke wi c s lo hi ke' wi' c' s' lo' hi' e1 e2 c1 s1 aa ab : Int) (l1 : List S70) (h1 r1 : List Int) (R1 : List (List Int)) (t : Bool) (u : Ed w q x y z l h r R) (u' : Ed w q' x' y' z' l' h' r' R') (he : SpecA ke wi l c s lo hi h r R ke' wi' l' c' s' lo' hi' h' r' R' e1 e2 l1 c1 s1 aa ab h1 r1 R1 t) :
  Calls Try.prog 28 #[.agg #[vi ke,vi wi,.slice q.A q.n q.c,vi c,vi s,vi lo,vi hi,.slice x.A x.n x.c,.slice y.A y.n y.c,.slice z.A z.n z.c],.agg #[vi ke',vi wi',.slice q'.A q'.n q'.c,vi c',vi s',vi lo',vi hi',.slice x'.A x'.n x'.c,.slice y'.A y'.n y'.c,.slice z'.A z'.n z'.c]] w fun e w' => ∃ (q1 x1 y1 z1 : Sl) (a b : Nat),e = .returned (.tuple #[.agg #[vi e1,vi e2,.slice q1.A q1.n q1.c,vi c1,vi s1,vi aa,vi ab,.slice x1.A x1.n x1.c,.slice y1.A y1.n y1.c,.slice z1.A z1.n z1.c],.bool t]) ∧ Er w' a b q1 x1 y1 z1 l1 h1 r1 R1 ∧ Made w w' a b ∧ Below w.heap.size w w' := he w q x y z q' x' y' z' u u'
def ImplA (ke wi : Int) (l : List S70) (c s lo hi : Int) (h r : List Int) (R : List (List Int)) (ke' wi' : Int) (l' : List S70) (c' s' lo' hi' : Int) (h' r' : List Int) (R' : List (List Int)) (e1 e2 : Int) (l1 : List S70) (c1 s1 aa ab : Int) (h1 r1 : List Int) (R1 : List (List Int)) (t : Bool) : Prop := ∀ (w : World) (q x y z q' x' y' z' : Sl),Ed w q x y z l h r R → Ed w q' x' y' z' l' h' r' R' → Calls Try.prog 27 #[.agg #[vi ke,vi wi,.slice q.A q.n q.c,vi c,vi s,vi lo,vi hi,.slice x.A x.n x.c,.slice y.A y.n y.c,.slice z.A z.n z.c],.agg #[vi ke',vi wi',.slice q'.A q'.n q'.c,vi c',vi s',vi lo',vi hi',.slice x'.A x'.n x'.c,.slice y'.A y'.n y'.c,.slice z'.A z'.n z'.c]] w fun e w' => ∃ (q1 x1 y1 z1 : Sl) (a b : Nat),e = .returned (.tuple #[.agg #[vi e1,vi e2,.slice q1.A q1.n q1.c,vi c1,vi s1,vi aa,vi ab,.slice x1.A x1.n x1.c,.slice y1.A y1.n y1.c,.slice z1.A z1.n z1.c],.bool t]) ∧ Ek w' a b q1 x1 y1 z1 l1 h1 r1 R1 ∧ Made w w' a b ∧ Below w.heap.size w w'
theorem implA_callD (k : Nat) {w : World} {q x y z q' x' y' z' : Sl} {l l' : List S70} {h r h' r' : List Int} {R R' : List (List Int)} (ke wi c s lo hi ke' wi' c' s' lo' hi' e1 e2 c1 s1 aa ab : Int) (l1 : List S70) (h1 r1 : List Int) (R1 : List (List Int)) (t : Bool) (u : Ed w q x y z l h r R) (u' : Ed w q' x' y' z' l' h' r' R') (he : ImplA ke wi l c s lo hi h r R ke' wi' l' c' s' lo' hi' h' r' R' e1 e2 l1 c1 s1 aa ab h1 r1 R1 t) :
  Calls Try.prog 27 #[.agg #[vi ke,vi wi,.slice q.A q.n q.c,vi c,vi s,vi lo,vi hi,.slice x.A x.n x.c,.slice y.A y.n y.c,.slice z.A z.n z.c],.agg #[vi ke',vi wi',.slice q'.A q'.n q'.c,vi c',vi s',vi lo',vi hi',.slice x'.A x'.n x'.c,.slice y'.A y'.n y'.c,.slice z'.A z'.n z'.c]] w fun e w' => ∃ (q1 x1 y1 z1 : Sl) (a b : Nat),e = .returned (.tuple #[.agg #[vi e1,vi e2,.slice q1.A q1.n q1.c,vi c1,vi s1,vi aa,vi ab,.slice x1.A x1.n x1.c,.slice y1.A y1.n y1.c,.slice z1.A z1.n z1.c],.bool t]) ∧ Ek w' a b q1 x1 y1 z1 l1 h1 r1 R1 ∧ Made w w' a b ∧ Below w.heap.size w w' := he w q x y z q' x' y' z' u u'
theorem Sk.pb {w : World} {a b : Nat} {x y z : Sl} {h r : List Int} {R : List (List Int)} (s : Sk w a b x y z h r R) : SkP w a (fun k => a ≤ k ∧ k < b) x y z h r R :=
 ⟨Kd.R_mono (Kd.R_bound s.1) (fun _ hk => ⟨hk.2.1,hk.1⟩),Kd.R_mono (Kd.R_bound s.2.1) (fun _ hk => ⟨⟨hk.2.1,hk.1.1⟩,hk.1.2⟩),Kd.S_mono (Kd.S_bound s.2.2) (fun _ hk => ⟨⟨hk.2.1,hk.1.1⟩,hk.1.2⟩)⟩
theorem Dr.new {w0 w W W1 : World} {g : Nat} {l : List Int} {p q p' q' : Int} {a a' b' : Nat} {P : Nat → Prop} {gx T : Nat} {Z B : Array Value} {x y z x' y' z' : Sl} {h r h' r' : List Int} {R R' : List (List Int)} (d : Dr w0 w W g l p q a P gx T Z B x y z h r R) (u : Cu w0 W1 g l p' q') (k : KeepBut W W1 g none) (s : Sk W1 a' b' x' y' z' h' r' R') (m : W.heap.size ≤ a') :
  Dr w0 w W1 g l p' q' a' (fun k => a' ≤ k ∧ k < b') gx T Z B x' y' z' h' r' R' := by
 have e := d.cur u k
 have n2 := d.n2
 have nx := d.X.lt
 exact ⟨s.pb,e.X,e.O,u,e.K,by omega,n2,d.n3,fun k hk => by omega⟩
theorem right6_cu (k : Nat) {w0 w : World} {g : Nat} {l : List Int} {p r sq cl ke wi c s lo hi r8 r9 : Int} {h t : List Int} {R : List (List Int)} (u : Cu w0 w g l p r) (he : spec_l6Right.f k l p r = some (sq,cl,ke,wi,c,s,lo,hi,h,t,R,r8,r9)) :
  Calls Try.prog 69 #[.pointer (some ⟨g,0,none⟩)] w fun e w' => ∃ (x y z : Sl) (a b : Nat),e = .returned (.agg #[vi sq,vi cl,vi ke,vi wi,vi c,vi s,vi lo,vi hi,.slice x.A x.n x.c,.slice y.A y.n y.c,.slice z.A z.n z.c]) ∧ Sk w' a b x y z h t R ∧ Made w w' a b ∧ Cu w0 w' g l r8 r9 ∧ KeepBut w w' g none := by
 refine (spec_l6Right.calls k g l p r sq cl ke wi c s lo hi h t R r8 r9 w0 w u.i u.b he).mono ?_
 rintro e w' ⟨v4,v5,v6,rfl,h4,h5,h6,hi,hb,hk⟩
 obtain ⟨x,y,z,rfl,rfl,rfl,hs⟩ := Sk.of h4 h5 h6 (fun _ hk => hk) (fun _ hk => hk)
 exact ⟨x,y,z,_,_,rfl,hs,⟨Nat.le_refl _,hk.1,Nat.le_refl _⟩,⟨hi,hb⟩,hk⟩
theorem draw_cu (k : Nat) {w0 w : World} {g : Nat} {l : List Int} {p r c s lo hi r8 r9 : Int} {h t : List Int} {R : List (List Int)} (u : Cu w0 w g l p r) (he : spec_l3Draw.f k l p r = some (c,s,lo,hi,h,t,R,r8,r9)) :
  Calls Try.prog 70 #[.pointer (some ⟨g,0,none⟩)] w fun e w' => ∃ (x y z : Sl) (a b : Nat),e = .returned (.agg #[vi c,vi s,vi lo,vi hi,.slice x.A x.n x.c,.slice y.A y.n y.c,.slice z.A z.n z.c]) ∧ Sk w' a b x y z h t R ∧ Made w w' a b ∧ Cu w0 w' g l r8 r9 ∧ KeepBut w w' g none := by
 refine (spec_l3Draw.calls k g l p r c s lo hi h t R r8 r9 w0 w u.i u.b he).mono ?_
 rintro e w' ⟨v4,v5,v6,rfl,h4,h5,h6,hi,hb,hk⟩
 obtain ⟨x,y,z,rfl,rfl,rfl,hs⟩ := Sk.of h4 h5 h6 (fun _ hk => hk) (fun _ hk => hk)
 exact ⟨x,y,z,_,_,rfl,hs,⟨Nat.le_refl _,hk.1,Nat.le_refl _⟩,⟨hi,hb⟩,hk⟩
section
variable {w w0 : World} {g t : Nat} {v0 v1 v2 v3 v4 v5 v6 v7 v8 v9 v10 : Value}
theorem Bx.cells11 (hb : Bx w g t #[v0,v1,v2,v3,v4,v5,v6,v7,v8,v9,v10]) :
  w.cell? ⟨g,0,none⟩ = some v0 ∧ w.cell? ⟨g,1,none⟩ = some v1 ∧ w.cell? ⟨g,2,none⟩ = some v2 ∧ w.cell? ⟨g,3,none⟩ = some v3 ∧ w.cell? ⟨g,4,none⟩ = some v4 ∧ w.cell? ⟨g,5,none⟩ = some v5 ∧ w.cell? ⟨g,6,none⟩ = some v6 ∧ w.cell? ⟨g,7,none⟩ = some v7 ∧ w.cell? ⟨g,8,none⟩ = some v8 ∧ w.cell? ⟨g,9,none⟩ = some v9 ∧ w.cell? ⟨g,10,none⟩ = some v10 :=
 ⟨blk_cell hb 0,blk_cell hb 1,blk_cell hb 2,blk_cell hb 3,blk_cell hb 4,blk_cell hb 5,blk_cell hb 6,blk_cell hb 7,blk_cell hb 8,blk_cell hb 9,blk_cell hb 10⟩
end
theorem new_cu (k : Nat) {w : World} {v : Sl} {l L : List Int} {p r : Int} (u : Bd w v l) (he : spec_l1New.f k l = some (L,p,r)) :
  Calls Try.prog 33 #[.slice v.A v.n v.c] w fun e w' => ∃ g : Nat,e = .returned (.pointer (some ⟨g,0,none⟩)) ∧ Cu w w' g L p r := by
 rw [u.e]
 refine (spec_l1New.calls k _ _ l L p r w w (Below.refl _ _) u.C u.le he).mono ?_
 rintro e w' ⟨g,rfl,h1,h2,_⟩
 exact ⟨g,rfl,h1,h2⟩
theorem copy_cu (k : Nat) {w : World} {x y z : Sl} {h r : List Int} {R : List (List Int)} (c s lo hi c1 s1 aa ab : Int) (h1 r1 : List Int) (R1 : List (List Int)) (u : Rd w x y z h r R) (he : spec_l3Copy.f k c s lo hi h r R = some (c1,s1,aa,ab,h1,r1,R1)) :
  Calls Try.prog 38 #[.agg #[vi c,vi s,vi lo,vi hi,.slice x.A x.n x.c,.slice y.A y.n y.c,.slice z.A z.n z.c]] w fun e w' => ∃ (x1 y1 z1 : Sl) (a b : Nat),e = .returned (.agg #[vi c1,vi s1,vi aa,vi ab,.slice x1.A x1.n x1.c,.slice y1.A y1.n y1.c,.slice z1.A z1.n z1.c]) ∧ Sk w' a b x1 y1 z1 h1 r1 R1 ∧ Made w w' a b ∧ Below w.heap.size w w' := by
 rw [u.e4,u.e5,u.e6]
 refine (spec_l3Copy.calls k c s lo hi _ _ h _ _ r _ _ R c1 s1 aa ab h1 r1 R1 w u.C4 u.l4 u.C5 u.l5 u.C6 u.l6 he).mono ?_
 rintro e w' ⟨v4,v5,v6,rfl,h4,h5,h6,hb⟩
 obtain ⟨x1,y1,z1,rfl,rfl,rfl,hs⟩ := Sk.of h4 h5 h6 (fun _ hk => hk) (fun _ hk => hk)
 exact ⟨x1,y1,z1,_,_,rfl,hs,⟨Nat.le_refl _,hb.size,Nat.le_refl _⟩,hb⟩
theorem big_callD {w : World} {v : Sl} {l : List Int} {t : Bool} (u : Bd w v l) (he : laws_big.f l = some t) :
  Calls Try.prog 7 #[.slice v.A v.n v.c] w fun e w' => e = .returned (.bool t) ∧ Below w.heap.size w w' := by
 rw [u.e]
 refine (laws_big.calls _ _ _ t w u.C u.le he).mono ?_
 rintro e w' ⟨rfl,hb⟩
 exact ⟨rfl,hb.below⟩
theorem specId_callD {w : World} (a b r : Int) (he : spec_IdOf.f a b = some r) :
  Calls Try.prog 13 #[vi a,vi b] w fun e w' => e = .returned (vi r) ∧ Below w.heap.size w w' :=
 (spec_IdOf.calls a b r w he).mono (fun _ _ h => ⟨h.1,h.2.below⟩)
theorem size_callD (k : Nat) {w : World} {q : Sl} {l : List S70} (t : Int) (u : Qd w q l) (he : impl_SetSize.f k l = some t) :
  Calls Try.prog 16 #[.slice q.A q.n q.c] w fun e w' => e = .returned (vi t) ∧ Below w.heap.size w w' := by
 rw [u.e]
 exact impl_SetSize.calls k _ _ l t w u.C u.le he
theorem span_lit (W : World) (id : Int) : Qk (W.alloc (.cells #[vi id,vi id] 70)) W.heap.size (W.heap.size + 1) ⟨some ⟨W.heap.size,0,none⟩,1,1⟩ [⟨id,id⟩] := by
 refine ⟨fun k hk => ?_,[vi id,vi id],?_,?_⟩
 ·have : W.heap.size = k := by simpa [Value.ownBlock] using hk
  omega
 ·have h2 := World.ownsRow_lit (base := W.heap.size) (e := 70) (size := 2) W #[vi id,vi id] 1 (Nat.le_refl _) (by simp [maxLen]) (by rfl)
  have h3 : (W.alloc (.cells #[vi id,vi id] 70)).ownsRow W.heap.size 70 2 (.slice (some ⟨W.heap.size,0,none⟩) 1 1) 1 [vi id,vi id] := by simpa using h2
  exact h3
 ·exact Reps.c2 (k70_mkM _ _ _ (⟨id,id⟩ : S70)) (Reps.none _ _)
structure EoF (w W : World) (T : Nat) (A : Array Value) : Prop where
 a : Bx W w.heap.size T A
 o : Bx W (w.heap.size + 1) 34 #[vi 0,vi 0,.slice none 0 0,vi 0,vi 0,vi 0,vi 0,.slice none 0 0,.slice none 0 0,.slice none 0 0]
 l : Below w.heap.size w W
 n : w.heap.size + 2 ≤ W.heap.size
theorem EoF.below {w W W1 : World} {T : Nat} {A : Array Value} (m : EoF w W T A) (hb : Below W.heap.size W W1) : EoF w W1 T A := ⟨m.a.below hb,m.o.below hb,below_step m.l hb,Nat.le_trans m.n hb.size⟩
theorem eo_in (w : World) (T : Nat) (A : Array Value) : EoF w ((w.alloc (.cells A T)).alloc (.cells #[vi 0,vi 0,.slice none 0 0,vi 0,vi 0,vi 0,vi 0,.slice none 0 0,.slice none 0 0,.slice none 0 0] 34)) T A := by
 have s1 : (w.alloc (.cells A T)).heap.size = w.heap.size + 1 := by simp
 have b2 := Bx.new (w.alloc (.cells A T)) 34 #[vi 0,vi 0,.slice none 0 0,vi 0,vi 0,vi 0,vi 0,.slice none 0 0,.slice none 0 0,.slice none 0 0]
 rw [s1] at b2
 exact ⟨(Bx.new w T A).below (below_alloc (Below.refl _ _) _),b2,below_alloc (below_alloc (Below.refl _ _) _) _,by simp⟩
theorem EoF.fin {w W W' : World} {T : Nat} {A : Array Value} {a b a' b' : Nat} {q x y z : Sl} {l : List S70} {h r : List Int} {R : List (List Int)} (m : EoF w W T A) (k : Kp W W' (w.heap.size + 1) (w.heap.size + 1 + 1)) (Q : Qk W a b q l) (S : Sk W a' b' x y z h r R) (ha : w.heap.size + 2 ≤ a) (ha' : w.heap.size + 2 ≤ a') (hb : b ≤ W.heap.size) (hb' : b' ≤ W.heap.size) :
  Ek W' (w.heap.size + 2) W'.heap.size q x y z l h r R ∧ Made w W' (w.heap.size + 2) W'.heap.size ∧ Below w.heap.size w W' := by
 have n := m.n
 have n' := k.kept.1
 exact ⟨⟨Qk.wide (Q.kp k (.inl (by omega))) ha (by omega),Sk.wide (S.kp k (.inl (by omega))) ha' (by omega)⟩,⟨by omega,by omega,Nat.le_refl _⟩,below_kp m.l k (by omega) m.l.size⟩
theorem itOkS_callD (k : Nat) {w : World} {x y z : Sl} {h r : List Int} {R : List (List Int)} (sq cl ke wi c s lo hi : Int) (t : Bool) (u : Rd w x y z h r R) (he : spec_ItemOk.f k sq cl ke wi c s lo hi h r R = some t) :
  Calls Try.prog 37 #[.agg #[vi sq,vi cl,vi ke,vi wi,vi c,vi s,vi lo,vi hi,.slice x.A x.n x.c,.slice y.A y.n y.c,.slice z.A z.n z.c]] w fun e w' => e = .returned (.bool t) ∧ Below w.heap.size w w' := by
 rw [u.e4,u.e5,u.e6]
 exact spec_ItemOk.calls k sq cl ke wi c s lo hi _ _ h _ _ r _ _ R t w u.C4 u.l4 u.C5 u.l5 u.C6 u.l6 he
theorem eOf_call (k : Nat) {w : World} {x y z : Sl} {h r : List Int} {R : List (List Int)} (ag sq cl ke wi c s lo hi id : Int) (u : Rd w x y z h r R) (HI : Aside0 (spec_IdOf.f ag sq = some id)) (HO : Aside0 (spec_ItemOk.f k sq cl ke wi c s lo hi h r R = some true)) (hne : ¬ id < 0) (HC : Aside0 (spec_l3Copy.f k c s lo hi h r R = some (c,s,lo,hi,h,r,R))) :
  Calls Try.prog 10 #[vi ag,.agg #[vi sq,vi cl,vi ke,vi wi,vi c,vi s,vi lo,vi hi,.slice x.A x.n x.c,.slice y.A y.n y.c,.slice z.A z.n z.c]] w fun e w' => ∃ (q x1 y1 z1 : Sl) (a b : Nat),e = .returned (.tuple #[.agg #[vi ke,vi wi,.slice q.A q.n q.c,vi c,vi s,vi lo,vi hi,.slice x1.A x1.n x1.c,.slice y1.A y1.n y1.c,.slice z1.A z1.n z1.c],.bool true]) ∧ Ek w' a b q x1 y1 z1 [⟨id,id⟩] h r R ∧ Made w w' a b ∧ Below w.heap.size w w' := by
 have U := mkA u
 clear u
 have M0 := mkA (eo_in w 29 #[vi sq,vi cl,vi ke,vi wi,vi c,vi s,vi lo,vi hi,.slice x.A x.n x.c,.slice y.A y.n y.c,.slice z.A z.n z.c])
 go_enter Try.func10,Try.ntmps10
 obtain ⟨i0,i1,i2,i3,i4,i5,i6,i7,i8,i9,i10⟩ := M0.out.a.cells11
 go_wp2_with fail
 clear i0 i1 i2 i3 i4 i5 i6 i7 i8 i9 i10
 refine (specId_callD ag sq id HI.out).mono ?_
 rintro e w1 ⟨rfl,hb⟩
 have M1 := mkA (M0.out.below hb)
 clear hb M0
 obtain ⟨i0,i1,i2,i3,i4,i5,i6,i7,i8,i9,i10⟩ := M1.out.a.cells11
 go_wp2_with fail
 clear i0 i1 i2 i3 i4 i5 i6 i7 i8 i9 i10
 refine (itOkS_callD k sq cl ke wi c s lo hi true (U.out.below M1.out.l) HO.out).mono ?_
 rintro e w2 ⟨rfl,hb⟩
 have M2 := mkA (M1.out.below hb)
 clear hb M1
 have LS := mkA (show ∀ W' : World,Bx W' w.heap.size 29 #[vi sq,vi cl,vi ke,vi wi,vi c,vi s,vi lo,vi hi,.slice x.A x.n x.c,.slice y.A y.n y.c,.slice z.A z.n z.c] → (fun w' : World => w'.cell? ⟨w.heap.size,0,none⟩ = some (vi sq) ∧ w'.cell? ⟨w.heap.size,1,none⟩ = some (vi cl) ∧ w'.cell? ⟨w.heap.size,2,none⟩ = some (vi ke) ∧ w'.cell? ⟨w.heap.size,3,none⟩ = some (vi wi) ∧ w'.cell? ⟨w.heap.size,4,none⟩ = some (vi c) ∧ w'.cell? ⟨w.heap.size,5,none⟩ = some (vi s) ∧ w'.cell? ⟨w.heap.size,6,none⟩ = some (vi lo) ∧ w'.cell? ⟨w.heap.size,7,none⟩ = some (vi hi) ∧ w'.cell? ⟨w.heap.size,8,none⟩ = some (.slice x.A x.n x.c) ∧ w'.cell? ⟨w.heap.size,9,none⟩ = some (.slice y.A y.n y.c) ∧ w'.cell? ⟨w.heap.size,10,none⟩ = some (.slice z.A z.n z.c)) W' from fun W' ba => ba.cells11)
 obtain ⟨i0,i1,i2,i3,i4,i5,i6,i7,i8,i9,i10⟩ := M2.out.a.cells11
 go_upto_region 4 with (fail)
 have MA := mkA (M2.out.below (below_drew (Below.refl _ _)))
 have MB := mkA (M2.out.below (below_drew (below_alloc (Below.refl _ w2) (.cells #[vi id,vi id] 70))))
 have QB := mkA ((span_lit w2 id).below (below_drew (Below.refl _ _)))
 go_region_held3 (fun w' : World => w'.cell? ⟨w.heap.size,0,none⟩ = some (vi sq) ∧ w'.cell? ⟨w.heap.size,1,none⟩ = some (vi cl) ∧ w'.cell? ⟨w.heap.size,2,none⟩ = some (vi ke) ∧ w'.cell? ⟨w.heap.size,3,none⟩ = some (vi wi) ∧ w'.cell? ⟨w.heap.size,4,none⟩ = some (vi c) ∧ w'.cell? ⟨w.heap.size,5,none⟩ = some (vi s) ∧ w'.cell? ⟨w.heap.size,6,none⟩ = some (vi lo) ∧ w'.cell? ⟨w.heap.size,7,none⟩ = some (vi hi) ∧ w'.cell? ⟨w.heap.size,8,none⟩ = some (.slice x.A x.n x.c) ∧ w'.cell? ⟨w.heap.size,9,none⟩ = some (.slice y.A y.n y.c) ∧ w'.cell? ⟨w.heap.size,10,none⟩ = some (.slice z.A z.n z.c)) (first | with_reducible exact LS.out _ MA.out.a | with_reducible exact LS.out _ MB.out.a | with_reducible exact LS.out _ MZ.out.a | with_reducible exact LS.out _ M3.out.a | with_reducible exact KS.out _ _ _ _ _ _ _ _ _ _) (first | (go_at_call 38;(with_reducible refine (copy_cu k c s lo hi c s lo hi h r R (U.out.below MA.out.l) HC.out).mono ?_);rintro e wz ⟨x1,y1,z1,a,b,rfl,hs,hm,hb⟩;have MZ := mkA (MA.out.below hb);have M3 := mkA (MZ.out.below (below_alloc (Below.refl _ wz) (.cells #[vi id,vi id] 70)));have S3 := mkA (hs.below (below_alloc (Below.refl _ wz) (.cells #[vi id,vi id] 70)));have Q3 := mkA (span_lit wz id);have N3 := mkA (And.intro MZ.out.n (And.intro hm (And.intro (show wz.heap.size + 1 ≤ (wz.alloc (.cells #[vi id,vi id] 70)).heap.size by simp) MA.out.n)));clear hs hm hb;obtain ⟨o0,o1,o2,o3,o4,o5,o6,o7,o8,o9⟩ := M3.out.o.cells10;have fo := M3.out.o.fz;have KS := mkA (fun (ad ae af ah ai ak al ao aq ar : Value) => LS.out _ (M3.out.a.kp (M3.out.o.fill10 ad ae af ah ai ak al ao aq ar).2 (.inl (by omega))))) | (go_at_call 38;(with_reducible refine (copy_cu k c s lo hi c s lo hi h r R (U.out.below MB.out.l) HC.out).mono ?_);rintro e wz ⟨x1,y1,z1,a,b,rfl,hs,hm,hb⟩;have MZ := mkA (MB.out.below hb);have M3 := MZ;have S3 := mkA hs;have Q3 := mkA (QB.out.below hb);have N3 := mkA (And.intro M2.out.n (And.intro hm (And.intro (show w2.heap.size + 1 ≤ wz.heap.size from Nat.le_trans (by simp) hb.size) MB.out.n)));clear hs hm hb;obtain ⟨o0,o1,o2,o3,o4,o5,o6,o7,o8,o9⟩ := M3.out.o.cells10;have fo := M3.out.o.fz;have KS := mkA (fun (ad ae af ah ai ak al ao aq ar : Value) => LS.out _ (M3.out.a.kp (M3.out.o.fill10 ad ae af ah ai ak al ao aq ar).2 (.inl (by omega))))))
 all_goals
  have n3 := N3.out;unfold Made at n3
  go_wp2
  refine bodyPost_ret (results_ct rfl _ _ (w.heap.size + 1) 34 _ (0,0) _ rfl (M3.out.o.fill10 _ _ _ _ _ _ _ _ _ _ ).1 Try.underlying34 rfl (by kernel_rfl)) rfl ?_;refine ⟨_,x1,y1,z1,_,_,?_,M3.out.fin (M3.out.o.fill10 _ _ _ _ _ _ _ _ _ _ ).2 Q3.out S3.out (by omega) (by omega) (by omega) (by omega)⟩
  rfl

def QP (w : World) (a : Nat) (P : Nat → Prop) (q : Sl) (l : List S70) : Prop := Kd.R k70 70 w a (fun k => P k) (.slice q.A q.n q.c) l
theorem QP.step {W W1 : World} {a : Nat} {P : Nat → Prop} {q : Sl} {l : List S70} (s : QP W a P q l) (hm : ∀ k,a ≤ k → P k → k < W.heap.size → W1.heap[k]? = W.heap[k]?) : QP W1 a P q l :=
 Kd.R_mono (Kd.R_move (Kd.R_bound s) (fun k hk => hm k hk.2.1 hk.1 hk.2.2.1)) (fun _ hk => hk.1)
structure De (w0 w W : World) (g : Nat) (l : List Int) (p q : Int) (a : Nat) (P : Nat → Prop) (gx : Nat) (B : Array Value) (a2 : Nat) (P2 : Nat → Prop) (qs x y z : Sl) (li : List S70) (h r : List Int) (R : List (List Int)) : Prop where
 D : Dr w0 w W g l p q a P gx 34 #[vi 0,vi 0,.slice none 0 0,vi 0,vi 0,vi 0,vi 0,.slice none 0 0,.slice none 0 0,.slice none 0 0] B x y z h r R
 Q : QP W a2 P2 qs li
 m1 : w.heap.size < a2
 m4 : ∀ k,P2 k → k ≠ gx
section
variable {w0 w W W1 : World} {g : Nat} {l : List Int} {p q p' q' : Int} {a a' b' : Nat} {P : Nat → Prop} {gx : Nat} {B B' : Array Value} {a2 : Nat} {P2 : Nat → Prop} {qs v x y z x' y' z' : Sl} {li li' : List S70} {h r h' r' : List Int} {R R' : List (List Int)}
theorem De.below (d : De w0 w W g l p q a P gx B a2 P2 qs x y z li h r R) (hb : Below W.heap.size W W1) : De w0 w W1 g l p q a P gx B a2 P2 qs x y z li h r R := ⟨d.D.below hb,d.Q.step (fun k _ _ hl => hb.block k hl),d.m1,d.m4⟩
theorem De.cur (d : De w0 w W g l p q a P gx B a2 P2 qs x y z li h r R) (u : Cu w0 W1 g l p' q') (k : KeepBut W W1 g none) : De w0 w W1 g l p' q' a P gx B a2 P2 qs x y z li h r R := by
 have m1 := d.m1
 have n3 := d.D.n3
 exact ⟨d.D.cur u k,d.Q.step (fun i hi _ hl => k.2 i hl (by omega) (by simp)),m1,d.m4⟩
theorem De.setX (d : De w0 w W g l p q a P gx B a2 P2 qs x y z li h r R) (i : Nat) (u : Value) (e : B.setIfInBounds i u = B') : De w0 w (W.setCell ⟨gx,i,none⟩ u) g l p q a P gx B' a2 P2 qs x y z li h r R :=
 ⟨d.D.setX i u e,d.Q.step (fun j _ hp hl => Below.heap_setCell W ⟨gx,i,none⟩ u j (d.m4 j hp)),d.m1,d.m4⟩
theorem De.newQ (d : De w0 w W g l p q a P gx B a2 P2 qs x y z li h r R) (u : Cu w0 W1 g l p' q') (k : KeepBut W W1 g none) (Q : QP W1 W.heap.size (fun _ => True) v li') : De w0 w W1 g l p' q' a P gx B W.heap.size (fun k => W.heap.size ≤ k) v x y z li' h r R := by
 have n2 := d.D.n2
 have nx := d.D.X.lt
 exact ⟨d.D.cur u k,Kd.R_mono (Kd.R_bound Q) (fun _ hk => hk.2.1),by omega,fun k hk => by omega⟩
theorem De.newS (d : De w0 w W g l p q a P gx B a2 P2 qs x y z li h r R) (u : Cu w0 W1 g l p' q') (k : KeepBut W W1 g none) (s : Sk W1 a' b' x' y' z' h' r' R') (m : W.heap.size ≤ a') : De w0 w W1 g l p' q' a' (fun k => a' ≤ k ∧ k < b') gx B a2 P2 qs x' y' z' li h' r' R' :=
 ⟨d.D.new u k s m,(d.cur u k).Q,d.m1,d.m4⟩
theorem De.fin (d : De w0 w W g l p q a P gx B a2 P2 qs x y z li h r R) (k : Kp W W1 w.heap.size (w.heap.size + 1)) : Ek W1 w.heap.size W1.heap.size qs x y z li h r R ∧ Cu w0 W1 g l p q ∧ KeepBut w W1 g none := by
 obtain ⟨s,c,kk⟩ := d.D.fill k
 have m1 := d.m1
 have n1 := d.D.n1
 have Q := d.Q.step (W1 := W1) (fun j hj _ hl => k.kept.2 j hl (fun hs => by omega))
 obtain ⟨k1,k2,k3⟩ := s.kd (base := w.heap.size) (by omega)
 exact ⟨⟨Kd.R_lower (Kd.R_mono (Kd.R_bound Q) (fun _ hk => hk.2.2.1)) (by omega),Kd.R_mono (Kd.R_bound k1) (fun _ hk => hk.2.2.1),Kd.R_mono (Kd.R_bound k2) (fun _ hk => ⟨hk.2.2.1,hk.1⟩),Kd.S_mono (Kd.S_bound k3) (fun _ hk => ⟨hk.2.2.1,hk.1⟩)⟩,c,kk⟩
end
theorem l5d_cu (k : Nat) {w0 w : World} {g : Nat} {l : List Int} {p r r2 r3 : Int} {li : List S70} (u : Cu w0 w g l p r) (he : spec_l5Draw.f k l p r = some (li,r2,r3)) :
  Calls Try.prog 100 #[.pointer (some ⟨g,0,none⟩)] w fun e w' => ∃ v : Sl,e = .returned (.slice v.A v.n v.c) ∧ QP w' w.heap.size (fun _ => True) v li ∧ Cu w0 w' g l r2 r3 ∧ KeepBut w w' g none := by
 refine (spec_l5Draw.calls k g l p r li r2 r3 w0 w u.i u.b he).mono ?_
 rintro e w' ⟨v,rfl,h4,hi,hb,hk⟩
 obtain ⟨A,c,rfl⟩ := Kd.R_slice h4
 exact ⟨⟨A,_,c⟩,rfl,h4,⟨hi,hb⟩,hk⟩
structure EnF (k : Nat) (l : List Int) (p q ag : Int) (p1 q1 sq cl ke wi c s lo hi : Int) (h r : List Int) (R : List (List Int)) (p2 q2 id : Int) (t1 : Bool) (p3 q3 : Int) (li : List S70) (p4 q4 : Int) (t2 : Bool) (p5 q5 c' s' lo' hi' : Int) (h' r' : List Int) (R' : List (List Int)) (p6 q6 : Int) (t3 : Bool) (p7 q7 ke' p8 q8 : Int) : Prop where
 A : spec_l1Below.f l p q 3 = some (ag,p1,q1)
 B : spec_l6Right.f k l p1 q1 = some (sq,cl,ke,wi,c,s,lo,hi,h,r,R,p2,q2)
 I : spec_IdOf.f ag sq = some id
 O : spec_ItemOk.f k sq cl ke wi c s lo hi h r R = some true
 N : ¬ id < 0
 C : spec_l3Copy.f k c s lo hi h r R = some (c,s,lo,hi,h,r,R)
 T1 : spec_l1Once.f l p2 q2 4 = some (t1,p3,q3)
 Y1 : t1 = true → spec_l5Draw.f k l p3 q3 = some (li,p4,q4)
 N1 : t1 = false → li = [⟨id,id⟩] ∧ p4 = p3 ∧ q4 = q3
 T2 : spec_l1Once.f l p4 q4 14 = some (t2,p5,q5)
 Y2 : t2 = true → spec_l3Draw.f k l p5 q5 = some (c',s',lo',hi',h',r',R',p6,q6)
 N2 : t2 = false → c' = c ∧ s' = s ∧ lo' = lo ∧ hi' = hi ∧ h' = h ∧ r' = r ∧ R' = R ∧ p6 = p5 ∧ q6 = q5
 T3 : spec_l1Once.f l p6 q6 20 = some (t3,p7,q7)
 Y3 : t3 = true → spec_l1PickInt.f l p7 q7 [(-1),5] = some (ke',p8,q8)
 N3 : t3 = false → ke' = ke ∧ p8 = p7 ∧ q8 = q7
theorem entry_cu (k : Nat) {w0 w : World} {g : Nat} {l : List Int} {p q ag p1 q1 sq cl ke wi c s lo hi p2 q2 id p3 q3 p4 q4 p5 q5 c' s' lo' hi' p6 q6 p7 q7 ke' p8 q8 : Int} {h r h' r' : List Int} {R R' : List (List Int)} {t1 t2 t3 : Bool} {li : List S70} (u : Cu w0 w g l p q) (F : Aside0 (EnF k l p q ag p1 q1 sq cl ke wi c s lo hi h r R p2 q2 id t1 p3 q3 li p4 q4 t2 p5 q5 c' s' lo' hi' h' r' R' p6 q6 t3 p7 q7 ke' p8 q8)) :
  Calls Try.prog 86 #[.pointer (some ⟨g,0,none⟩)] w fun e w' => ∃ (qs x y z : Sl) (a b : Nat),e = .returned (.agg #[vi ke',vi wi,.slice qs.A qs.n qs.c,vi c',vi s',vi lo',vi hi',.slice x.A x.n x.c,.slice y.A y.n y.c,.slice z.A z.n z.c]) ∧ Ek w' a b qs x y z li h' r' R' ∧ Made w w' a b ∧ Cu w0 w' g l p8 q8 ∧ KeepBut w w' g none := by
 have U0 := mkA (u.below (below_alloc (Below.refl _ w) (.cells #[vi 0,vi 0,.slice none 0 0,vi 0,vi 0,vi 0,vi 0,.slice none 0 0,.slice none 0 0,.slice none 0 0] 34)))
 have K0 := mkA (keep_alloc (KeepBut.refl w g none) (.cells #[vi 0,vi 0,.slice none 0 0,vi 0,vi 0,vi 0,vi 0,.slice none 0 0,.slice none 0 0,.slice none 0 0] 34))
 have O0 := mkA (Bx.new w 34 #[vi 0,vi 0,.slice none 0 0,vi 0,vi 0,vi 0,vi 0,.slice none 0 0,.slice none 0 0,.slice none 0 0])
 have N0 := mkA u.lt
 clear u
 go_enter Try.func86,Try.ntmps86
 go_wp2_with fail
 have hq : (w.alloc (.cells #[vi 0,vi 0,.slice none 0 0,vi 0,vi 0,vi 0,vi 0,.slice none 0 0,.slice none 0 0,.slice none 0 0] 34)).heap.size = w.heap.size + 1 := by simp
 refine (below_cu U0.out F.out.A).mono ?_
 rintro e w1 ⟨rfl,u1,hk⟩
 have O1 := mkA (O0.out.kp (U0.out.kp u1 hk) (.inr N0.out))
 have K1 := mkA (keep_cur K0.out hk)
 have U1 := mkA u1
 have Z1 := mkA (show w.heap.size + 1 ≤ w1.heap.size by have := hk.1;omega)
 clear u1 hk hq O0 K0 U0
 go_wp2_with fail
 refine (right6_cu k U1.out F.out.B).mono ?_
 rintro e w2 ⟨x,y,z,a,b,rfl,hs,hm,u2,hk⟩
 unfold Made at hm
 have O2 := mkA (O1.out.kp (U1.out.kp u2 hk) (.inr N0.out))
 have K2 := mkA (keep_cur K1.out hk)
 have U2 := mkA u2
 have S2 := mkA hs
 have Z2 := mkA (show w.heap.size + 1 ≤ w2.heap.size by have := Z1.out;omega)
 clear u2 hk hs hm O1 K1 U1 Z1
 go_wp2_with fail
 refine (eOf_call k ag sq cl ke wi c s lo hi id S2.out.rd ⟨F.out.I⟩ ⟨F.out.O⟩ F.out.N ⟨F.out.C⟩).mono ?_
 rintro e w3 ⟨aF,x1,y1,z1,a1,b1,rfl,hs,hm,bI⟩
 unfold Made at hm
 have aK := below_alloc (Below.refl _ w3) (.cells #[vi ke,vi wi,.slice aF.A aF.n aF.c,vi c,vi s,vi lo,vi hi,.slice x1.A x1.n x1.c,.slice y1.A y1.n y1.c,.slice z1.A z1.n z1.c] 34)
 have hb := below_step bI aK
 have z2 := Z2.out
 have n0 := N0.out
 have D0 := mkA (show De w0 w (w3.alloc (.cells #[vi ke,vi wi,.slice aF.A aF.n aF.c,vi c,vi s,vi lo,vi hi,.slice x1.A x1.n x1.c,.slice y1.A y1.n y1.c,.slice z1.A z1.n z1.c] 34)) g l p2 q2 a1 (fun k => k < b1) w3.heap.size #[vi ke,vi wi,.slice aF.A aF.n aF.c,vi c,vi s,vi lo,vi hi,.slice x1.A x1.n x1.c,.slice y1.A y1.n y1.c,.slice z1.A z1.n z1.c] a1 (fun k => k < b1) aF x1 y1 z1 [⟨id,id⟩] h r R from ⟨⟨hs.2.below aK,Bx.new w3 34 #[vi ke,vi wi,.slice aF.A aF.n aF.c,vi c,vi s,vi lo,vi hi,.slice x1.A x1.n x1.c,.slice y1.A y1.n y1.c,.slice z1.A z1.n z1.c],O2.out.below hb,U2.out.below hb,keep_below K2.out hb,by omega,by omega,n0,fun k hk => by omega⟩,Kd.R_below hs.1 aK,by omega,fun k hk => by omega⟩)
 clear hs hm bI aK hb z2 n0 O2 K2 U2 S2 Z2 N0
 go_wp2_with fail
 refine (once_cu D0.out.D.C F.out.T1).mono ?_
 rintro e w4 ⟨rfl,u,hk⟩
 have D := mkA (D0.out.cur u hk)
 clear u hk D0
 generalize w3.heap.size = gx at *
 cases t1
 all_goals first
  | (obtain ⟨e1,e2,e3⟩ := F.out.N1 rfl;subst e1 e2 e3;go_upto_region 4 with (fail);have J := mkA (show ∃ (a : Nat) (P : Nat → Prop) (a2 : Nat) (P2 : Nat → Prop) (qs x y z : Sl),De w0 w w4 g l p4 q4 a P gx #[vi ke,vi wi,.slice qs.A qs.n qs.c,vi c,vi s,vi lo,vi hi,.slice x.A x.n x.c,.slice y.A y.n y.c,.slice z.A z.n z.c] a2 P2 qs x y z [⟨id,id⟩] h r R from ⟨_,_,_,_,_,_,_,_,D.out⟩);generalize w4 = wj at *)
  | (go_wp2_with fail;refine (l5d_cu k D.out.D.C (F.out.Y1 rfl)).mono ?_;rintro e w5 ⟨v,rfl,hQ,u,hk⟩;have D3 := mkA (D.out.newQ u hk hQ);clear u hk hQ;obtain ⟨x_0,x_1,x_2,x_3,x_4,x_5,x_6,x_7,x_8,x_9⟩ := D3.out.D.X.cells10;have fx := D3.out.D.X.fz;go_upto_region 4 with (fail);clear x_0 x_1 x_2 x_3 x_4 x_5 x_6 x_7 x_8 x_9;clear fx;have D4 := mkA (D3.out.setX 2 (.slice v.A v.n v.c) rfl);have J := mkA (show ∃ (a : Nat) (P : Nat → Prop) (a2 : Nat) (P2 : Nat → Prop) (qs x y z : Sl),De w0 w _ g l p4 q4 a P gx #[vi ke,vi wi,.slice qs.A qs.n qs.c,vi c,vi s,vi lo,vi hi,.slice x.A x.n x.c,.slice y.A y.n y.c,.slice z.A z.n z.c] a2 P2 qs x y z li h r R from ⟨_,_,_,_,_,_,_,_,D4.out⟩);clear D3 D4;generalize w5.setCell _ _ = wj at *)
 all_goals
  clear D;obtain ⟨a_,P_,bJ,bK,qs_,x_,y_,z_,De_⟩ := J.out;have D := mkA De_;clear De_ J
  go_wp2_with fail
  refine (once_cu D.out.D.C F.out.T2).mono ?_
  rintro e w6 ⟨rfl,u,hk⟩
  replace D := mkA (D.out.cur u hk);clear u hk
  cases t2
  all_goals first
   | (obtain ⟨e1,e2,e3,e4,e5,e6,e7,e8,e9⟩ := F.out.N2 rfl;subst e1 e2 e3 e4 e5 e6 e7 e8 e9;go_upto_region 6 with (fail);have D4 := D;have J := mkA (show ∃ (a : Nat) (P : Nat → Prop) (a2 : Nat) (P2 : Nat → Prop) (qs x y z : Sl),De w0 w _ g l _ _ a P gx #[vi ke,vi wi,.slice qs.A qs.n qs.c,vi _,vi _,vi _,vi _,.slice x.A x.n x.c,.slice y.A y.n y.c,.slice z.A z.n z.c] a2 P2 qs x y z _ _ _ _ from ⟨_,_,_,_,_,_,_,_,D4.out⟩);clear D4;generalize w6 = wk at *)
   | (go_wp2_with fail;refine (draw_cu k D.out.D.C (F.out.Y2 rfl)).mono ?_;rintro e w7 ⟨x',y',z',a',b',rfl,hs,hm,u,hk⟩;have D3 := mkA (D.out.newS u hk hs hm.1);clear u hk hs hm;obtain ⟨x_0,x_1,x_2,x_3,x_4,x_5,x_6,x_7,x_8,x_9⟩ := D3.out.D.X.cells10;have fx := D3.out.D.X.fz;go_upto_region 6 with (fail);clear x_0 x_1 x_2 x_3 x_4 x_5 x_6 x_7 x_8 x_9;clear fx;have D4 := mkA (((((((D3.out.setX 3 (vi c') rfl).setX 4 (vi s') rfl).setX 5 (vi lo') rfl).setX 6 (vi hi') rfl).setX 7 (.slice x'.A x'.n x'.c) rfl).setX 8 (.slice y'.A y'.n y'.c) rfl).setX 9 (.slice z'.A z'.n z'.c) rfl);have J := mkA (show ∃ (a : Nat) (P : Nat → Prop) (a2 : Nat) (P2 : Nat → Prop) (qs x y z : Sl),De w0 w _ g l p6 q6 a P gx #[vi ke,vi wi,.slice qs.A qs.n qs.c,vi c',vi s',vi lo',vi hi',.slice x.A x.n x.c,.slice y.A y.n y.c,.slice z.A z.n z.c] a2 P2 qs x y z _ h' r' R' from ⟨_,_,_,_,_,_,_,_,D4.out⟩);clear D3 D4;generalize ((((((w7.setCell _ _).setCell _ _).setCell _ _).setCell _ _).setCell _ _).setCell _ _).setCell _ _ = wk at *)
 all_goals
  clear D;obtain ⟨a_,P_,bJ,bK,qs_,x_,y_,z_,De_⟩ := J.out;have D := mkA De_;clear De_ J
  go_wp2_with fail
  refine (once_cu D.out.D.C F.out.T3).mono ?_
  rintro e w8 ⟨rfl,u,hk⟩
  replace D := mkA (D.out.cur u hk);clear u hk
  cases t3
  all_goals first
   | (obtain ⟨e1,e2,e3⟩ := F.out.N3 rfl;subst e1 e2 e3;go_upto_region 8 with (fail);have D4 := D;have J := mkA (show ∃ (a : Nat) (P : Nat → Prop) (a2 : Nat) (P2 : Nat → Prop) (qs x y z : Sl),De w0 w _ g l _ _ a P gx #[vi _,vi wi,.slice qs.A qs.n qs.c,vi _,vi _,vi _,vi _,.slice x.A x.n x.c,.slice y.A y.n y.c,.slice z.A z.n z.c] a2 P2 qs x y z _ _ _ _ from ⟨_,_,_,_,_,_,_,_,D4.out⟩);clear D4;generalize w8 = wl at *)
   | (go_wp2_with fail;have D2 := mkA (D.out.below (below_alloc (Below.refl _ w8) (.cells #[vi (-1),vi 5] 3)));have L2 := mkA (Bx.new w8 3 #[vi (-1),vi 5]);have g1 := D.out.D.C.lt;refine (lit_cu (n := 2) [(-1),5] D2.out.D.C L2.out rfl (by decide) (Nat.ne_of_gt g1) (F.out.Y3 rfl)).mono ?_;rintro e w9 ⟨rfl,u,hk⟩;have D3 := mkA (D2.out.cur u hk);clear u hk g1 L2 D2;obtain ⟨x_0,x_1,x_2,x_3,x_4,x_5,x_6,x_7,x_8,x_9⟩ := D3.out.D.X.cells10;have fx := D3.out.D.X.fz;go_upto_region 8 with (fail);clear x_0 x_1 x_2 x_3 x_4 x_5 x_6 x_7 x_8 x_9;clear fx;have D4 := mkA (D3.out.setX 0 (vi ke') rfl);have J := mkA (show ∃ (a : Nat) (P : Nat → Prop) (a2 : Nat) (P2 : Nat → Prop) (qs x y z : Sl),De w0 w _ g l p8 q8 a P gx #[vi ke',vi wi,.slice qs.A qs.n qs.c,vi _,vi _,vi _,vi _,.slice x.A x.n x.c,.slice y.A y.n y.c,.slice z.A z.n z.c] a2 P2 qs x y z _ _ _ _ from ⟨_,_,_,_,_,_,_,_,D4.out⟩);clear D3 D4;generalize w9.setCell _ _ = wl at *)
 all_goals
  clear D;obtain ⟨a_,P_,bJ,bK,qs_,x_,y_,z_,De_⟩ := J.out;have D := mkA De_;clear De_ J;obtain ⟨c_0,c_1,c_2,c_3,c_4,c_5,c_6,c_7,c_8,c_9⟩ := D.out.D.X.cells10;obtain ⟨o0,o1,o2,o3,o4,o5,o6,o7,o8,o9⟩ := D.out.D.O.cells10;have fo := D.out.D.O.fz
  go_wp2
  refine bodyPost_ret (results_cell_row rfl _ _ w.heap.size 34 _ (0,0) _ rfl (D.out.D.O.fill10 _ _ _ _ _ _ _ _ _ _ ).1 Try.underlying34 rfl (by kernel_rfl)) rfl ?_;obtain ⟨k1,k2,k3⟩ := D.out.fin (D.out.D.O.fill10 (vi ke') (vi wi) (.slice qs_.A qs_.n qs_.c) (vi c') (vi s') (vi lo') (vi hi') (.slice x_.A x_.n x_.c) (.slice y_.A y_.n y_.c) (.slice z_.A z_.n z_.c)).2;exact ⟨qs_,x_,y_,z_,_,_,rfl,k1,⟨Nat.le_refl _,k3.1,Nat.le_refl _⟩,k2,k3⟩

theorem l5c_call {w : World} {q : Sl} {l l1 : List S70} (u : Qd w q l) (he : spec_l5Copy.f l = some l1) :
  Calls Try.prog 101 #[.slice q.A q.n q.c] w fun e w' => ∃ (v : Sl) (a b : Nat),e = .returned (.slice v.A v.n v.c) ∧ Qk w' a b v l1 ∧ Made w w' a b ∧ Below w.heap.size w w' := by
 rw [u.e]
 refine (spec_l5Copy.calls _ _ l l1 w u.C u.le he).mono ?_
 rintro e w' ⟨v,rfl,hR,hb⟩
 obtain ⟨A1,c1,rfl⟩ := Kd.R_slice hR
 exact ⟨⟨A1,_,c1⟩,w.heap.size,w'.heap.size,rfl,Kd.R_mono (Kd.R_bound hR) (fun _ hk => hk.2.2.1),⟨Nat.le_refl _,hb.size,Nat.le_refl _⟩,hb⟩
theorem ecopy_call (k : Nat) {w : World} {q x y z : Sl} {li : List S70} {h r : List Int} {R : List (List Int)} (ke wi c s lo hi : Int) (u : Ed w q x y z li h r R) (H5 : Aside0 (spec_l5Copy.f li = some li)) (H3 : Aside0 (spec_l3Copy.f k c s lo hi h r R = some (c,s,lo,hi,h,r,R))) :
  Calls Try.prog 88 #[.agg #[vi ke,vi wi,.slice q.A q.n q.c,vi c,vi s,vi lo,vi hi,.slice x.A x.n x.c,.slice y.A y.n y.c,.slice z.A z.n z.c]] w fun e w' => ∃ (q1 x1 y1 z1 : Sl) (a b : Nat),e = .returned (.agg #[vi ke,vi wi,.slice q1.A q1.n q1.c,vi c,vi s,vi lo,vi hi,.slice x1.A x1.n x1.c,.slice y1.A y1.n y1.c,.slice z1.A z1.n z1.c]) ∧ Ek w' a b q1 x1 y1 z1 li h r R ∧ Made w w' a b ∧ Below w.heap.size w w' := by
 have U := mkA u
 clear u
 have M0 := mkA (eo_in w 34 #[vi ke,vi wi,.slice q.A q.n q.c,vi c,vi s,vi lo,vi hi,.slice x.A x.n x.c,.slice y.A y.n y.c,.slice z.A z.n z.c])
 go_enter Try.func88,Try.ntmps88
 have LS := mkA (show ∀ W' : World,Bx W' w.heap.size 34 #[vi ke,vi wi,.slice q.A q.n q.c,vi c,vi s,vi lo,vi hi,.slice x.A x.n x.c,.slice y.A y.n y.c,.slice z.A z.n z.c] → (fun w' : World => w'.cell? ⟨w.heap.size,0,none⟩ = some (vi ke) ∧ w'.cell? ⟨w.heap.size,1,none⟩ = some (vi wi) ∧ w'.cell? ⟨w.heap.size,2,none⟩ = some (.slice q.A q.n q.c) ∧ w'.cell? ⟨w.heap.size,3,none⟩ = some (vi c) ∧ w'.cell? ⟨w.heap.size,4,none⟩ = some (vi s) ∧ w'.cell? ⟨w.heap.size,5,none⟩ = some (vi lo) ∧ w'.cell? ⟨w.heap.size,6,none⟩ = some (vi hi) ∧ w'.cell? ⟨w.heap.size,7,none⟩ = some (.slice x.A x.n x.c) ∧ w'.cell? ⟨w.heap.size,8,none⟩ = some (.slice y.A y.n y.c) ∧ w'.cell? ⟨w.heap.size,9,none⟩ = some (.slice z.A z.n z.c)) W' from fun W' ba => ba.cells10)
 go_wp2_with fail
 have M := mkA (M0.out.below (below_drew (Below.refl _ _)))
 have MB := mkA M0.out.n
 obtain ⟨i0,i1,i2,i3,i4,i5,i6,i7,i8,i9⟩ := M0.out.a.cells10
 clear M0
 go_region_held3 (fun w' : World => w'.cell? ⟨w.heap.size,0,none⟩ = some (vi ke) ∧ w'.cell? ⟨w.heap.size,1,none⟩ = some (vi wi) ∧ w'.cell? ⟨w.heap.size,2,none⟩ = some (.slice q.A q.n q.c) ∧ w'.cell? ⟨w.heap.size,3,none⟩ = some (vi c) ∧ w'.cell? ⟨w.heap.size,4,none⟩ = some (vi s) ∧ w'.cell? ⟨w.heap.size,5,none⟩ = some (vi lo) ∧ w'.cell? ⟨w.heap.size,6,none⟩ = some (vi hi) ∧ w'.cell? ⟨w.heap.size,7,none⟩ = some (.slice x.A x.n x.c) ∧ w'.cell? ⟨w.heap.size,8,none⟩ = some (.slice y.A y.n y.c) ∧ w'.cell? ⟨w.heap.size,9,none⟩ = some (.slice z.A z.n z.c)) (first | with_reducible exact LS.out _ M.out.a | with_reducible exact KS.out _ _ _ _ _ _ _ _ _ _ ) (first | (go_at_call 101;(with_reducible refine (l5c_call (U.out.below M.out.l).q H5.out).mono ?_);rintro e wz ⟨q1,aj,bj,rfl,hs,hm,hb⟩;(try (replace S := mkA (S.out.below hb)));have J := mkA hs;have NJ := mkA (And.intro M.out.n (And.intro hm hb.size));(try (replace NS := mkA (And.intro NS.out hb.size)));replace M := mkA (M.out.below hb);clear hs hm hb;obtain ⟨o0,o1,o2,o3,o4,o5,o6,o7,o8,o9⟩ := M.out.o.cells10;have fo := M.out.o.fz;have KS := mkA (fun (ad ae af ah ai ak al ao aq ar : Value) => LS.out _ (M.out.a.kp (M.out.o.fill10 ad ae af ah ai ak al ao aq ar).2 (.inl (by omega))))) | (go_at_call 38;(with_reducible refine (copy_cu k c s lo hi c s lo hi h r R (U.out.below M.out.l).s H3.out).mono ?_);rintro e wz ⟨x1,y1,z1,am,bm,rfl,hs,hm,hb⟩;(try (replace J := mkA (J.out.below hb)));have S := mkA hs;have NS := mkA (And.intro M.out.n (And.intro hm hb.size));(try (replace NJ := mkA (And.intro NJ.out hb.size)));replace M := mkA (M.out.below hb);clear hs hm hb;obtain ⟨o0,o1,o2,o3,o4,o5,o6,o7,o8,o9⟩ := M.out.o.cells10;have fo := M.out.o.fz;have KS := mkA (fun (ad ae af ah ai ak al ao aq ar : Value) => LS.out _ (M.out.a.kp (M.out.o.fill10 ad ae af ah ai ak al ao aq ar).2 (.inl (by omega))))))
 all_goals
  have n1 := NJ.out;have n2 := NS.out;unfold Made at n1 n2
  go_wp2
  refine bodyPost_ret (results_cell_row rfl _ _ (w.heap.size + 1) 34 _ (0,0) _ rfl (M.out.o.fill10 _ _ _ _ _ _ _ _ _ _ ).1 Try.underlying34 rfl (by kernel_rfl)) rfl ?_;refine ⟨_,x1,y1,z1,_,_,?_,M.out.fin (M.out.o.fill10 _ _ _ _ _ _ _ _ _ _ ).2 J.out S.out (by omega) (by omega) (by omega) (by omega)⟩
  rfl
structure Two (w W : World) : Prop where
 o : Bx W w.heap.size 34 #[vi 0,vi 0,.slice none 0 0,vi 0,vi 0,vi 0,vi 0,.slice none 0 0,.slice none 0 0,.slice none 0 0]
 p : Bx W (w.heap.size + 1) 34 #[vi 0,vi 0,.slice none 0 0,vi 0,vi 0,vi 0,vi 0,.slice none 0 0,.slice none 0 0,.slice none 0 0]
 l : Below w.heap.size w W
 n : w.heap.size + 2 ≤ W.heap.size
theorem Two.below {w W W1 : World} (m : Two w W) (hb : Below W.heap.size W W1) : Two w W1 := ⟨m.o.below hb,m.p.below hb,below_step m.l hb,Nat.le_trans m.n hb.size⟩
theorem Two.kp {w W W1 : World} {a b : Nat} (m : Two w W) (k : Kp W W1 a b) (ha : w.heap.size + 2 ≤ a) : Two w W1 := ⟨m.o.kp k (.inl (by omega)),m.p.kp k (.inl (by omega)),below_kp m.l k (by omega) m.l.size,Nat.le_trans m.n k.kept.1⟩
theorem two_in (w : World) : Two w ((w.alloc (.cells #[vi 0,vi 0,.slice none 0 0,vi 0,vi 0,vi 0,vi 0,.slice none 0 0,.slice none 0 0,.slice none 0 0] 34)).alloc (.cells #[vi 0,vi 0,.slice none 0 0,vi 0,vi 0,vi 0,vi 0,.slice none 0 0,.slice none 0 0,.slice none 0 0] 34)) := by
 have s1 : (w.alloc (.cells #[vi 0,vi 0,.slice none 0 0,vi 0,vi 0,vi 0,vi 0,.slice none 0 0,.slice none 0 0,.slice none 0 0] 34)).heap.size = w.heap.size + 1 := by simp
 have b2 := Bx.new (w.alloc (.cells #[vi 0,vi 0,.slice none 0 0,vi 0,vi 0,vi 0,vi 0,.slice none 0 0,.slice none 0 0,.slice none 0 0] 34)) 34 #[vi 0,vi 0,.slice none 0 0,vi 0,vi 0,vi 0,vi 0,.slice none 0 0,.slice none 0 0,.slice none 0 0]
 rw [s1] at b2
 exact ⟨(Bx.new w 34 #[vi 0,vi 0,.slice none 0 0,vi 0,vi 0,vi 0,vi 0,.slice none 0 0,.slice none 0 0,.slice none 0 0]).below (below_alloc (Below.refl _ _) _),b2,below_alloc (below_alloc (Below.refl _ _) _) _,by simp⟩
theorem Two.fill {w W : World} (m : Two w W) (ad ae af ah ai ak al ao aq ar av aw ax ay az aA aB aC aD aE : Value) :
  Bx ((((((((((((((((((((W.setCell ⟨w.heap.size,0,none⟩ ad).setCell ⟨w.heap.size,1,none⟩ ae).setCell ⟨w.heap.size,2,none⟩ af).setCell ⟨w.heap.size,3,none⟩ ah).setCell ⟨w.heap.size,4,none⟩ ai).setCell ⟨w.heap.size,5,none⟩ ak).setCell ⟨w.heap.size,6,none⟩ al).setCell ⟨w.heap.size,7,none⟩ ao).setCell ⟨w.heap.size,8,none⟩ aq).setCell ⟨w.heap.size,9,none⟩ ar).setCell ⟨w.heap.size + 1,0,none⟩ av).setCell ⟨w.heap.size + 1,1,none⟩ aw).setCell ⟨w.heap.size + 1,2,none⟩ ax).setCell ⟨w.heap.size + 1,3,none⟩ ay).setCell ⟨w.heap.size + 1,4,none⟩ az).setCell ⟨w.heap.size + 1,5,none⟩ aA).setCell ⟨w.heap.size + 1,6,none⟩ aB).setCell ⟨w.heap.size + 1,7,none⟩ aC).setCell ⟨w.heap.size + 1,8,none⟩ aD).setCell ⟨w.heap.size + 1,9,none⟩ aE) w.heap.size 34 #[ad,ae,af,ah,ai,ak,al,ao,aq,ar] ∧ Bx ((((((((((((((((((((W.setCell ⟨w.heap.size,0,none⟩ ad).setCell ⟨w.heap.size,1,none⟩ ae).setCell ⟨w.heap.size,2,none⟩ af).setCell ⟨w.heap.size,3,none⟩ ah).setCell ⟨w.heap.size,4,none⟩ ai).setCell ⟨w.heap.size,5,none⟩ ak).setCell ⟨w.heap.size,6,none⟩ al).setCell ⟨w.heap.size,7,none⟩ ao).setCell ⟨w.heap.size,8,none⟩ aq).setCell ⟨w.heap.size,9,none⟩ ar).setCell ⟨w.heap.size + 1,0,none⟩ av).setCell ⟨w.heap.size + 1,1,none⟩ aw).setCell ⟨w.heap.size + 1,2,none⟩ ax).setCell ⟨w.heap.size + 1,3,none⟩ ay).setCell ⟨w.heap.size + 1,4,none⟩ az).setCell ⟨w.heap.size + 1,5,none⟩ aA).setCell ⟨w.heap.size + 1,6,none⟩ aB).setCell ⟨w.heap.size + 1,7,none⟩ aC).setCell ⟨w.heap.size + 1,8,none⟩ aD).setCell ⟨w.heap.size + 1,9,none⟩ aE) (w.heap.size + 1) 34 #[av,aw,ax,ay,az,aA,aB,aC,aD,aE] ∧ Below w.heap.size w ((((((((((((((((((((W.setCell ⟨w.heap.size,0,none⟩ ad).setCell ⟨w.heap.size,1,none⟩ ae).setCell ⟨w.heap.size,2,none⟩ af).setCell ⟨w.heap.size,3,none⟩ ah).setCell ⟨w.heap.size,4,none⟩ ai).setCell ⟨w.heap.size,5,none⟩ ak).setCell ⟨w.heap.size,6,none⟩ al).setCell ⟨w.heap.size,7,none⟩ ao).setCell ⟨w.heap.size,8,none⟩ aq).setCell ⟨w.heap.size,9,none⟩ ar).setCell ⟨w.heap.size + 1,0,none⟩ av).setCell ⟨w.heap.size + 1,1,none⟩ aw).setCell ⟨w.heap.size + 1,2,none⟩ ax).setCell ⟨w.heap.size + 1,3,none⟩ ay).setCell ⟨w.heap.size + 1,4,none⟩ az).setCell ⟨w.heap.size + 1,5,none⟩ aA).setCell ⟨w.heap.size + 1,6,none⟩ aB).setCell ⟨w.heap.size + 1,7,none⟩ aC).setCell ⟨w.heap.size + 1,8,none⟩ aD).setCell ⟨w.heap.size + 1,9,none⟩ aE) ∧ Kp W ((((((((((((((((((((W.setCell ⟨w.heap.size,0,none⟩ ad).setCell ⟨w.heap.size,1,none⟩ ae).setCell ⟨w.heap.size,2,none⟩ af).setCell ⟨w.heap.size,3,none⟩ ah).setCell ⟨w.heap.size,4,none⟩ ai).setCell ⟨w.heap.size,5,none⟩ ak).setCell ⟨w.heap.size,6,none⟩ al).setCell ⟨w.heap.size,7,none⟩ ao).setCell ⟨w.heap.size,8,none⟩ aq).setCell ⟨w.heap.size,9,none⟩ ar).setCell ⟨w.heap.size + 1,0,none⟩ av).setCell ⟨w.heap.size + 1,1,none⟩ aw).setCell ⟨w.heap.size + 1,2,none⟩ ax).setCell ⟨w.heap.size + 1,3,none⟩ ay).setCell ⟨w.heap.size + 1,4,none⟩ az).setCell ⟨w.heap.size + 1,5,none⟩ aA).setCell ⟨w.heap.size + 1,6,none⟩ aB).setCell ⟨w.heap.size + 1,7,none⟩ aC).setCell ⟨w.heap.size + 1,8,none⟩ aD).setCell ⟨w.heap.size + 1,9,none⟩ aE) w.heap.size (w.heap.size + 2) := by
 obtain ⟨h1,k1⟩ := m.o.fill10 ad ae af ah ai ak al ao aq ar
 have hp := m.p.kp k1 (.inr (by omega))
 obtain ⟨h2,k2⟩ := hp.fill10 av aw ax ay az aA aB aC aD aE
 have K1 : Kp W _ w.heap.size (w.heap.size + 2) := ⟨k1.os,k1.tape,k1.output,k1.kept.mono (fun i hi => ⟨hi.1,by omega⟩)⟩
 have K2 : Kp _ _ w.heap.size (w.heap.size + 2) := ⟨k2.os,k2.tape,k2.output,k2.kept.mono (fun i hi => ⟨by omega,by omega⟩)⟩
 have K := K1.trans K2
 exact ⟨h1.kp k2 (.inl (by omega)),h2,below_kp m.l K (Nat.le_refl _) m.l.size,K⟩
def EnE (k : Nat) (l : List Int) (p q ke' wi c' s' lo' hi' : Int) (li : List S70) (h' r' : List Int) (R' : List (List Int)) (p8 q8 : Int) : Prop :=
 ∃ (ag p1 q1 sq cl ke c s lo hi : Int) (h r : List Int) (R : List (List Int)) (p2 q2 id : Int) (t1 : Bool) (p3 q3 p4 q4 : Int) (t2 : Bool) (p5 q5 p6 q6 : Int) (t3 : Bool) (p7 q7 : Int),EnF k l p q ag p1 q1 sq cl ke wi c s lo hi h r R p2 q2 id t1 p3 q3 li p4 q4 t2 p5 q5 c' s' lo' hi' h' r' R' p6 q6 t3 p7 q7 ke' p8 q8
theorem entryE_cu (k : Nat) {w0 w : World} {g : Nat} {l : List Int} {p q ke' wi c' s' lo' hi' p8 q8 : Int} {li : List S70} {h' r' : List Int} {R' : List (List Int)} (u : Cu w0 w g l p q) (F : EnE k l p q ke' wi c' s' lo' hi' li h' r' R' p8 q8) :
  Calls Try.prog 86 #[.pointer (some ⟨g,0,none⟩)] w fun e w' => ∃ (qs x y z : Sl) (a b : Nat),e = .returned (.agg #[vi ke',vi wi,.slice qs.A qs.n qs.c,vi c',vi s',vi lo',vi hi',.slice x.A x.n x.c,.slice y.A y.n y.c,.slice z.A z.n z.c]) ∧ Ek w' a b qs x y z li h' r' R' ∧ Made w w' a b ∧ Cu w0 w' g l p8 q8 ∧ KeepBut w w' g none := by
 obtain ⟨_,_,_,_,_,_,_,_,_,_,_,_,_,_,_,_,_,_,_,_,_,_,_,_,_,_,_,_,_,H⟩ := F
 exact entry_cu k u ⟨H⟩
def EtOut (ke wi c s lo hi : Int) (li : List S70) (h r : List Int) (R : List (List Int)) (kb wb cb sb lob hib : Int) (lb : List S70) (hb rb : List Int) (Rb : List (List Int)) (w : World) (e : Ending) (w' : World) : Prop := ∃ (q x y z q' x' y' z' : Sl) (a b a' b' : Nat),e = .returned (.tuple #[.agg #[vi ke,vi wi,.slice q.A q.n q.c,vi c,vi s,vi lo,vi hi,.slice x.A x.n x.c,.slice y.A y.n y.c,.slice z.A z.n z.c],.agg #[vi kb,vi wb,.slice q'.A q'.n q'.c,vi cb,vi sb,vi lob,vi hib,.slice x'.A x'.n x'.c,.slice y'.A y'.n y'.c,.slice z'.A z'.n z'.c]]) ∧ Ek w' a b q x y z li h r R ∧ Ek w' a' b' q' x' y' z' lb hb rb Rb ∧ w.heap.size ≤ a ∧ w.heap.size ≤ a' ∧ Below w.heap.size w w'
structure EtF (k : Nat) (l L : List Int) (p0 q0 ke wi c s lo hi : Int) (li : List S70) (h r : List Int) (R : List (List Int)) (p1 q1 ke' wi' c' s' lo' hi' : Int) (li' : List S70) (h' r' : List Int) (R' : List (List Int)) (p2 q2 : Int) (t1 : Bool) (p3 q3 kx wx : Int) (t2 : Bool) (p4 q4 kb wb cb sb lob hib : Int) (lb : List S70) (hb rb : List Int) (Rb : List (List Int)) : Prop where
 N : spec_l1New.f k l = some (L,p0,q0)
 D : EnE k L p0 q0 ke wi c s lo hi li h r R p1 q1
 E : EnE k L p1 q1 ke' wi' c' s' lo' hi' li' h' r' R' p2 q2
 T1 : spec_l1Once.f L p2 q2 4 = some (t1,p3,q3)
 Y1 : t1 = true → kx = ke' ∧ wx = wi'
 N1 : t1 = false → kx = ke ∧ wx = wi
 T2 : spec_l1Once.f L p3 q3 6 = some (t2,p4,q4)
 Y2 : t2 = true → spec_l5Copy.f li = some li ∧ spec_l3Copy.f k c s lo hi h r R = some (c,s,lo,hi,h,r,R) ∧ kb = ke ∧ wb = wi ∧ cb = c ∧ sb = s ∧ lob = lo ∧ hib = hi ∧ lb = li ∧ hb = h ∧ rb = r ∧ Rb = R
 N2 : t2 = false → kb = kx ∧ wb = wx ∧ cb = c' ∧ sb = s' ∧ lob = lo' ∧ hib = hi' ∧ lb = li' ∧ hb = h' ∧ rb = r' ∧ Rb = R'
theorem l6two (k : Nat) {w : World} {v : Sl} {l L : List Int} {p0 q0 ke wi c s lo hi p1 q1 ke' wi' c' s' lo' hi' p2 q2 p3 q3 kx wx p4 q4 kb wb cb sb lob hib : Int} {li li' lb : List S70} {h r h' r' hb rb : List Int} {R R' Rb : List (List Int)} {t1 t2 : Bool} (u : Bd w v l) (F : Aside0 (EtF k l L p0 q0 ke wi c s lo hi li h r R p1 q1 ke' wi' c' s' lo' hi' li' h' r' R' p2 q2 t1 p3 q3 kx wx t2 p4 q4 kb wb cb sb lob hib lb hb rb Rb)) :
  Calls Try.prog 57 #[.slice v.A v.n v.c] w (EtOut ke wi c s lo hi li h r R kb wb cb sb lob hib lb hb rb Rb w) := by
 have M0 := mkA (two_in w)
 have U := mkA (u.below M0.out.l)
 clear u
 go_enter Try.func57,Try.ntmps57
 go_wp2_with fail
 refine (new_cu k U.out F.out.N).mono ?_
 rintro e w1 ⟨g,rfl,u1⟩
 clear U
 have M1 := mkA (M0.out.below u1.b)
 have aI := mkA (Nat.le_trans M0.out.n u1.ge)
 have C1 := mkA u1
 clear u1 M0
 generalize ((w.alloc (.cells #[vi 0,vi 0,.slice none 0 0,vi 0,vi 0,vi 0,vi 0,.slice none 0 0,.slice none 0 0,.slice none 0 0] 34)).alloc (.cells #[vi 0,vi 0,.slice none 0 0,vi 0,vi 0,vi 0,vi 0,.slice none 0 0,.slice none 0 0,.slice none 0 0] 34)) = W0 at *
 go_wp2_with fail
 refine (entryE_cu k C1.out F.out.D).mono ?_
 rintro e w2 ⟨q,x,y,z,a,b,rfl,hs,hm,u2,hk⟩
 have au := C1.out.kp u2 hk
 have bM := C1.out.lt
 unfold Made at hm
 have hb_ := below_alloc (Below.refl _ w2) (.cells #[vi ke,vi wi,.slice q.A q.n q.c,vi c,vi s,vi lo,vi hi,.slice x.A x.n x.c,.slice y.A y.n y.c,.slice z.A z.n z.c] 34)
 have M3 := mkA ((M1.out.kp au aI.out).below hb_)
 have S3 := mkA (hs.below hb_)
 have C3 := mkA (u2.below hb_)
 have X3 := mkA (Bx.new w2 34 #[vi ke,vi wi,.slice q.A q.n q.c,vi c,vi s,vi lo,vi hi,.slice x.A x.n x.c,.slice y.A y.n y.c,.slice z.A z.n z.c])
 have N3 := mkA (show g + 1 ≤ a ∧ a ≤ b ∧ b ≤ w2.heap.size by omega)
 clear hk hs hm u2 au bM hb_ C1 M1
 go_wp2_with fail
 refine (entryE_cu k C3.out F.out.E).mono ?_
 rintro e w4 ⟨q',x',y',z',a',b',rfl,hs,hm,u4,hk⟩
 have au := C3.out.kp u4 hk
 unfold Made at hm
 have hq : (w2.alloc (.cells #[vi ke,vi wi,.slice q.A q.n q.c,vi c,vi s,vi lo,vi hi,.slice x.A x.n x.c,.slice y.A y.n y.c,.slice z.A z.n z.c] 34)).heap.size = w2.heap.size + 1 := by simp
 have n3 := N3.out
 have hb_ := below_alloc (Below.refl _ w4) (.cells #[vi ke',vi wi',.slice q'.A q'.n q'.c,vi c',vi s',vi lo',vi hi',.slice x'.A x'.n x'.c,.slice y'.A y'.n y'.c,.slice z'.A z'.n z'.c] 34)
 have M5 := mkA ((M3.out.kp au aI.out).below hb_)
 have S5 := mkA ((S3.out.kp au (.inl (by omega))).below hb_)
 have T5 := mkA (hs.below hb_)
 have C5 := mkA (u4.below hb_)
 have X5 := mkA ((X3.out.kp au (.inr (by omega))).below hb_)
 have Y5 := mkA (Bx.new w4 34 #[vi ke',vi wi',.slice q'.A q'.n q'.c,vi c',vi s',vi lo',vi hi',.slice x'.A x'.n x'.c,.slice y'.A y'.n y'.c,.slice z'.A z'.n z'.c])
 have N5 := mkA (show w.heap.size + 2 ≤ g ∧ g + 1 ≤ a ∧ a ≤ b ∧ b ≤ w2.heap.size ∧ w2.heap.size + 1 ≤ a' ∧ a' ≤ b' ∧ b' ≤ w4.heap.size by have := aI.out;omega)
 clear hk hs hm u4 au hb_ C3 M3 S3 X3 N3 n3 hq
 go_wp2_with fail
 refine (once_cu C5.out F.out.T1).mono ?_
 rintro e w6 ⟨rfl,u6,hk⟩
 have au := C5.out.kp u6 hk
 have n5 := N5.out
 have M := mkA (M5.out.kp au aI.out)
 have S := mkA (S5.out.kp au (.inl (by omega)))
 have T := mkA (T5.out.kp au (.inl (by omega)))
 have X := mkA (X5.out.kp au (.inr (by omega)))
 have Y := mkA (Y5.out.kp au (.inr (by omega)))
 have C := mkA u6
 clear hk u6 au C5 M5 S5 T5 X5 Y5
 have s4 : w4.heap.size < w6.heap.size := Y.out.lt
 generalize w2.heap.size = gA at *
 generalize w4.heap.size = gB at *
 cases t1
 all_goals first
  | (obtain ⟨e1,e2⟩ := F.out.N1 rfl;have E1 := mkA e1;have E2 := mkA e2;clear e1 e2;obtain ⟨x_0,x_1,x_2,x_3,x_4,x_5,x_6,x_7,x_8,x_9⟩ := X.out.cells10;have fy := Y.out.fz;obtain ⟨y_0,y_1,y_2,y_3,y_4,y_5,y_6,y_7,y_8,y_9⟩ := Y.out.cells10;go_upto_region 7 with (fail);clear x_0 x_1 x_2 x_3 x_4 x_5 x_6 x_7 x_8 x_9;clear y_0 y_1 y_2 y_3 y_4 y_5 y_6 y_7 y_8 y_9;clear fy;rw [← E1.out,← E2.out];have J := mkA (show Two w ((w6.setCell ⟨gB,0,none⟩ (vi kx)).setCell ⟨gB,1,none⟩ (vi wx)) ∧ Ek ((w6.setCell ⟨gB,0,none⟩ (vi kx)).setCell ⟨gB,1,none⟩ (vi wx)) a b q x y z li h r R ∧ Ek ((w6.setCell ⟨gB,0,none⟩ (vi kx)).setCell ⟨gB,1,none⟩ (vi wx)) a' b' q' x' y' z' li' h' r' R' ∧ Bx ((w6.setCell ⟨gB,0,none⟩ (vi kx)).setCell ⟨gB,1,none⟩ (vi wx)) gA 34 #[vi ke,vi wi,.slice q.A q.n q.c,vi c,vi s,vi lo,vi hi,.slice x.A x.n x.c,.slice y.A y.n y.c,.slice z.A z.n z.c] ∧ Bx ((w6.setCell ⟨gB,0,none⟩ (vi kx)).setCell ⟨gB,1,none⟩ (vi wx)) gB 34 #[vi kx,vi wx,.slice q'.A q'.n q'.c,vi c',vi s',vi lo',vi hi',.slice x'.A x'.n x'.c,.slice y'.A y'.n y'.c,.slice z'.A z'.n z'.c] ∧ Cu W0 ((w6.setCell ⟨gB,0,none⟩ (vi kx)).setCell ⟨gB,1,none⟩ (vi wx)) g L p3 q3 from ⟨M.out.kp ((Kp.set ⟨Nat.le_refl gB,Nat.lt_succ_self gB⟩ (vi kx)).trans (Kp.set (j := 1) ⟨Nat.le_refl gB,Nat.lt_succ_self gB⟩ (vi wx))) (by omega),S.out.kp ((Kp.set ⟨Nat.le_refl gB,Nat.lt_succ_self gB⟩ (vi kx)).trans (Kp.set (j := 1) ⟨Nat.le_refl gB,Nat.lt_succ_self gB⟩ (vi wx))) (.inr (by omega)),T.out.kp ((Kp.set ⟨Nat.le_refl gB,Nat.lt_succ_self gB⟩ (vi kx)).trans (Kp.set (j := 1) ⟨Nat.le_refl gB,Nat.lt_succ_self gB⟩ (vi wx))) (.inr (by omega)),X.out.kp ((Kp.set ⟨Nat.le_refl gB,Nat.lt_succ_self gB⟩ (vi kx)).trans (Kp.set (j := 1) ⟨Nat.le_refl gB,Nat.lt_succ_self gB⟩ (vi wx))) (.inl (by omega)),blk_put (blk_put Y.out 0 _ rfl) 1 _ rfl,C.out.own ((Kp.set ⟨Nat.le_refl gB,Nat.lt_succ_self gB⟩ (vi kx)).trans (Kp.set (j := 1) ⟨Nat.le_refl gB,Nat.lt_succ_self gB⟩ (vi wx))) (by omega) (by have := C.out.ge;omega)⟩);clear M S T X Y C;generalize ((w6.setCell ⟨gB,0,none⟩ (vi kx)).setCell ⟨gB,1,none⟩ (vi wx)) = wj at *;clear E1 E2)
  | (obtain ⟨e1,e2⟩ := F.out.Y1 rfl;go_upto_region 7 with (fail);have J := mkA (show Two w w6 ∧ Ek w6 a b q x y z li h r R ∧ Ek w6 a' b' q' x' y' z' li' h' r' R' ∧ Bx w6 gA 34 #[vi ke,vi wi,.slice q.A q.n q.c,vi c,vi s,vi lo,vi hi,.slice x.A x.n x.c,.slice y.A y.n y.c,.slice z.A z.n z.c] ∧ Bx w6 gB 34 #[vi kx,vi wx,.slice q'.A q'.n q'.c,vi c',vi s',vi lo',vi hi',.slice x'.A x'.n x'.c,.slice y'.A y'.n y'.c,.slice z'.A z'.n z'.c] ∧ Cu W0 w6 g L p3 q3 from ⟨M.out,S.out,T.out,X.out,by rw [e1,e2];exact Y.out,C.out⟩);clear e1 e2 M S T X Y C;generalize w6 = wj at *)
 all_goals
  clear n5;obtain ⟨hM,hS,hT,hX,hY,hC⟩ := J.out;have M5 := mkA hM;have S5 := mkA hS;have T5 := mkA hT;have X5 := mkA hX;have Y5 := mkA hY;have C5 := mkA hC;clear hM hS hT hX hY hC J
  go_wp2_with fail
  refine (once_cu C5.out F.out.T2).mono ?_
  rintro e w8 ⟨rfl,u6,hk⟩
  have au := C5.out.kp u6 hk;have n5 := N5.out;have s8 := Y5.out.lt;have M := mkA (M5.out.kp au aI.out);have S := mkA (S5.out.kp au (.inl (by omega)));have T := mkA (T5.out.kp au (.inl (by omega)));have X := mkA (X5.out.kp au (.inr (by omega)));have Y := mkA (Y5.out.kp au (.inr (by omega)));clear hk u6 au C5 M5 S5 T5 X5 Y5 s8
  cases t2
  all_goals first
   | (obtain ⟨e1,e2,e3,e4,e5,e6,e7,e8,e9,aH⟩ := F.out.N2 rfl;go_upto_region 9 with (fail);have J := mkA (show ∃ (qn xn yn zn : Sl) (an bn : Nat),Two w w8 ∧ Ek w8 a b q x y z li h r R ∧ Ek w8 an bn qn xn yn zn lb hb rb Rb ∧ Bx w8 gA 34 #[vi ke,vi wi,.slice q.A q.n q.c,vi c,vi s,vi lo,vi hi,.slice x.A x.n x.c,.slice y.A y.n y.c,.slice z.A z.n z.c] ∧ Bx w8 gB 34 #[vi kb,vi wb,.slice qn.A qn.n qn.c,vi cb,vi sb,vi lob,vi hib,.slice xn.A xn.n xn.c,.slice yn.A yn.n yn.c,.slice zn.A zn.n zn.c] ∧ w.heap.size + 2 ≤ an from ⟨q',x',y',z',a',b',M.out,S.out,by rw [e7,e8,e9,aH];exact T.out,X.out,by rw [e1,e2,e3,e4,e5,e6];exact Y.out,by omega⟩);clear e1 e2 e3 e4 e5 e6 e7 e8 e9 aH M S T X Y;generalize w8 = wk at *)
   | (obtain ⟨g5,g3,e1,e2,e3,e4,e5,e6,e7,e8,e9,aH⟩ := F.out.Y2 rfl;have EE := mkA (And.intro e1 (And.intro e2 (And.intro e3 (And.intro e4 (And.intro e5 (And.intro e6 (And.intro e7 (And.intro e8 (And.intro e9 aH)))))))));clear e1 e2 e3 e4 e5 e6 e7 e8 e9 aH;obtain ⟨x_0,x_1,x_2,x_3,x_4,x_5,x_6,x_7,x_8,x_9⟩ := X.out.cells10;go_wp2_with fail;clear x_0 x_1 x_2 x_3 x_4 x_5 x_6 x_7 x_8 x_9;refine (ecopy_call k ke wi c s lo hi S.out.rd ⟨g5⟩ ⟨g3⟩).mono ?_;rintro e w9 ⟨q2,x2,y2,z2,a2,b2,rfl,hs,hm,hb_⟩;unfold Made at hm;have s9 := Y.out.lt;replace M := mkA (M.out.below hb_);replace S := mkA (S.out.below hb_);replace X := mkA (X.out.below hb_);replace Y := mkA (Y.out.below hb_);have T2 := mkA hs;have N9 := mkA (show gB + 1 ≤ a2 by omega);clear hs hm hb_ g5 g3 s9;obtain ⟨y_0,y_1,y_2,y_3,y_4,y_5,y_6,y_7,y_8,y_9⟩ := Y.out.cells10;have fy := Y.out.fz;go_upto_region 9 with (fail);clear y_0 y_1 y_2 y_3 y_4 y_5 y_6 y_7 y_8 y_9;clear fy;have KY := Y.out.fill10 (vi ke) (vi wi) (.slice q2.A q2.n q2.c) (vi c) (vi s) (vi lo) (vi hi) (.slice x2.A x2.n x2.c) (.slice y2.A y2.n y2.c) (.slice z2.A z2.n z2.c);have n9 := N9.out;obtain ⟨e1,e2,e3,e4,e5,e6,e7,e8,e9,aH⟩ := EE.out;have J := mkA (show ∃ (qn xn yn zn : Sl) (an bn : Nat),Two w ((((((((((w9.setCell ⟨gB,0,none⟩ (vi ke)).setCell ⟨gB,1,none⟩ (vi wi)).setCell ⟨gB,2,none⟩ (.slice q2.A q2.n q2.c)).setCell ⟨gB,3,none⟩ (vi c)).setCell ⟨gB,4,none⟩ (vi s)).setCell ⟨gB,5,none⟩ (vi lo)).setCell ⟨gB,6,none⟩ (vi hi)).setCell ⟨gB,7,none⟩ (.slice x2.A x2.n x2.c)).setCell ⟨gB,8,none⟩ (.slice y2.A y2.n y2.c)).setCell ⟨gB,9,none⟩ (.slice z2.A z2.n z2.c)) ∧ Ek ((((((((((w9.setCell ⟨gB,0,none⟩ (vi ke)).setCell ⟨gB,1,none⟩ (vi wi)).setCell ⟨gB,2,none⟩ (.slice q2.A q2.n q2.c)).setCell ⟨gB,3,none⟩ (vi c)).setCell ⟨gB,4,none⟩ (vi s)).setCell ⟨gB,5,none⟩ (vi lo)).setCell ⟨gB,6,none⟩ (vi hi)).setCell ⟨gB,7,none⟩ (.slice x2.A x2.n x2.c)).setCell ⟨gB,8,none⟩ (.slice y2.A y2.n y2.c)).setCell ⟨gB,9,none⟩ (.slice z2.A z2.n z2.c)) a b q x y z li h r R ∧ Ek ((((((((((w9.setCell ⟨gB,0,none⟩ (vi ke)).setCell ⟨gB,1,none⟩ (vi wi)).setCell ⟨gB,2,none⟩ (.slice q2.A q2.n q2.c)).setCell ⟨gB,3,none⟩ (vi c)).setCell ⟨gB,4,none⟩ (vi s)).setCell ⟨gB,5,none⟩ (vi lo)).setCell ⟨gB,6,none⟩ (vi hi)).setCell ⟨gB,7,none⟩ (.slice x2.A x2.n x2.c)).setCell ⟨gB,8,none⟩ (.slice y2.A y2.n y2.c)).setCell ⟨gB,9,none⟩ (.slice z2.A z2.n z2.c)) an bn qn xn yn zn lb hb rb Rb ∧ Bx ((((((((((w9.setCell ⟨gB,0,none⟩ (vi ke)).setCell ⟨gB,1,none⟩ (vi wi)).setCell ⟨gB,2,none⟩ (.slice q2.A q2.n q2.c)).setCell ⟨gB,3,none⟩ (vi c)).setCell ⟨gB,4,none⟩ (vi s)).setCell ⟨gB,5,none⟩ (vi lo)).setCell ⟨gB,6,none⟩ (vi hi)).setCell ⟨gB,7,none⟩ (.slice x2.A x2.n x2.c)).setCell ⟨gB,8,none⟩ (.slice y2.A y2.n y2.c)).setCell ⟨gB,9,none⟩ (.slice z2.A z2.n z2.c)) gA 34 #[vi ke,vi wi,.slice q.A q.n q.c,vi c,vi s,vi lo,vi hi,.slice x.A x.n x.c,.slice y.A y.n y.c,.slice z.A z.n z.c] ∧ Bx ((((((((((w9.setCell ⟨gB,0,none⟩ (vi ke)).setCell ⟨gB,1,none⟩ (vi wi)).setCell ⟨gB,2,none⟩ (.slice q2.A q2.n q2.c)).setCell ⟨gB,3,none⟩ (vi c)).setCell ⟨gB,4,none⟩ (vi s)).setCell ⟨gB,5,none⟩ (vi lo)).setCell ⟨gB,6,none⟩ (vi hi)).setCell ⟨gB,7,none⟩ (.slice x2.A x2.n x2.c)).setCell ⟨gB,8,none⟩ (.slice y2.A y2.n y2.c)).setCell ⟨gB,9,none⟩ (.slice z2.A z2.n z2.c)) gB 34 #[vi kb,vi wb,.slice qn.A qn.n qn.c,vi cb,vi sb,vi lob,vi hib,.slice xn.A xn.n xn.c,.slice yn.A yn.n yn.c,.slice zn.A zn.n zn.c] ∧ w.heap.size + 2 ≤ an from ⟨q2,x2,y2,z2,a2,b2,M.out.kp KY.2 (by omega),S.out.kp KY.2 (.inr (by omega)),by rw [e7,e8,e9,aH];exact T2.out.kp KY.2 (.inl (by omega)),X.out.kp KY.2 (.inl (by omega)),by rw [e1,e2,e3,e4,e5,e6];exact KY.1,by omega⟩);clear e1 e2 e3 e4 e5 e6 e7 e8 e9 aH KY M S T X Y T2 EE n9 N9;generalize ((((((((((w9.setCell ⟨gB,0,none⟩ (vi ke)).setCell ⟨gB,1,none⟩ (vi wi)).setCell ⟨gB,2,none⟩ (.slice q2.A q2.n q2.c)).setCell ⟨gB,3,none⟩ (vi c)).setCell ⟨gB,4,none⟩ (vi s)).setCell ⟨gB,5,none⟩ (vi lo)).setCell ⟨gB,6,none⟩ (vi hi)).setCell ⟨gB,7,none⟩ (.slice x2.A x2.n x2.c)).setCell ⟨gB,8,none⟩ (.slice y2.A y2.n y2.c)).setCell ⟨gB,9,none⟩ (.slice z2.A z2.n z2.c)) = wk at *)
 all_goals
  obtain ⟨q2,x2,y2,z2,a2,b2,hM,hS,hT,hX,hY,bL⟩ := J.out;have M := mkA hM;have S := mkA hS;have T := mkA hT;have X := mkA hX;have Y := mkA hY;have A2 := mkA bL;clear hM hS hT hX hY bL J;have LS := mkA (show ∀ W' : World,Bx W' gA 34 #[vi ke,vi wi,.slice q.A q.n q.c,vi c,vi s,vi lo,vi hi,.slice x.A x.n x.c,.slice y.A y.n y.c,.slice z.A z.n z.c] → Bx W' gB 34 #[vi kb,vi wb,.slice q2.A q2.n q2.c,vi cb,vi sb,vi lob,vi hib,.slice x2.A x2.n x2.c,.slice y2.A y2.n y2.c,.slice z2.A z2.n z2.c] → (fun w' : World => w'.cell? ⟨gA,0,none⟩ = some (vi ke) ∧ w'.cell? ⟨gA,1,none⟩ = some (vi wi) ∧ w'.cell? ⟨gA,2,none⟩ = some (.slice q.A q.n q.c) ∧ w'.cell? ⟨gA,3,none⟩ = some (vi c) ∧ w'.cell? ⟨gA,4,none⟩ = some (vi s) ∧ w'.cell? ⟨gA,5,none⟩ = some (vi lo) ∧ w'.cell? ⟨gA,6,none⟩ = some (vi hi) ∧ w'.cell? ⟨gA,7,none⟩ = some (.slice x.A x.n x.c) ∧ w'.cell? ⟨gA,8,none⟩ = some (.slice y.A y.n y.c) ∧ w'.cell? ⟨gA,9,none⟩ = some (.slice z.A z.n z.c) ∧ w'.cell? ⟨gB,0,none⟩ = some (vi kb) ∧ w'.cell? ⟨gB,1,none⟩ = some (vi wb) ∧ w'.cell? ⟨gB,2,none⟩ = some (.slice q2.A q2.n q2.c) ∧ w'.cell? ⟨gB,3,none⟩ = some (vi cb) ∧ w'.cell? ⟨gB,4,none⟩ = some (vi sb) ∧ w'.cell? ⟨gB,5,none⟩ = some (vi lob) ∧ w'.cell? ⟨gB,6,none⟩ = some (vi hib) ∧ w'.cell? ⟨gB,7,none⟩ = some (.slice x2.A x2.n x2.c) ∧ w'.cell? ⟨gB,8,none⟩ = some (.slice y2.A y2.n y2.c) ∧ w'.cell? ⟨gB,9,none⟩ = some (.slice z2.A z2.n z2.c)) W' from fun W' ba bb => by obtain ⟨x_0,x_1,x_2,x_3,x_4,x_5,x_6,x_7,x_8,x_9⟩ := ba.cells10;obtain ⟨y_0,y_1,y_2,y_3,y_4,y_5,y_6,y_7,y_8,y_9⟩ := bb.cells10;exact ⟨x_0,x_1,x_2,x_3,x_4,x_5,x_6,x_7,x_8,x_9,y_0,y_1,y_2,y_3,y_4,y_5,y_6,y_7,y_8,y_9⟩);obtain ⟨x_0,x_1,x_2,x_3,x_4,x_5,x_6,x_7,x_8,x_9⟩ := X.out.cells10;obtain ⟨y_0,y_1,y_2,y_3,y_4,y_5,y_6,y_7,y_8,y_9⟩ := Y.out.cells10;have n5 := N5.out;have XD := mkA (X.out.below (below_drew (Below.refl _ _)));have YD := mkA (Y.out.below (below_drew (Below.refl _ _)));have KS := mkA (fun (ad ae af ah ai ak al ao aq ar : Value) => LS.out _ ((X.out.kp (M.out.o.fill10 ad ae af ah ai ak al ao aq ar).2 (.inr (by omega))).below (below_drew (Below.refl _ _))) ((Y.out.kp (M.out.o.fill10 ad ae af ah ai ak al ao aq ar).2 (.inr (by omega))).below (below_drew (Below.refl _ _))));have KT := mkA (fun (ad ae af ah ai ak al ao aq ar av aw ax ay az aA aB aC aD aE : Value) => LS.out _ (((X.out.kp (M.out.o.fill10 ad ae af ah ai ak al ao aq ar).2 (.inr (by omega))).kp (((M.out.p.kp (M.out.o.fill10 ad ae af ah ai ak al ao aq ar).2 (.inr (by omega))).fill10 av aw ax ay az aA aB aC aD aE).2) (.inr (by omega))).below (below_drew (Below.refl _ _))) (((Y.out.kp (M.out.o.fill10 ad ae af ah ai ak al ao aq ar).2 (.inr (by omega))).kp (((M.out.p.kp (M.out.o.fill10 ad ae af ah ai ak al ao aq ar).2 (.inr (by omega))).fill10 av aw ax ay az aA aB aC aD aE).2) (.inr (by omega))).below (below_drew (Below.refl _ _))));obtain ⟨o0,o1,o2,o3,o4,o5,o6,o7,o8,o9⟩ := M.out.o.cells10;have fo := M.out.o.fz;obtain ⟨p_0,p_1,p_2,p_3,p_4,p_5,p_6,p_7,p_8,p_9⟩ := M.out.p.cells10;have fp := M.out.p.fz
  have aL : w.heap.size ≠ w.heap.size + 1 := by omega
  clear n5
  go_wp2_with fail
  go_region_held3 (fun w' : World => w'.cell? ⟨gA,0,none⟩ = some (vi ke) ∧ w'.cell? ⟨gA,1,none⟩ = some (vi wi) ∧ w'.cell? ⟨gA,2,none⟩ = some (.slice q.A q.n q.c) ∧ w'.cell? ⟨gA,3,none⟩ = some (vi c) ∧ w'.cell? ⟨gA,4,none⟩ = some (vi s) ∧ w'.cell? ⟨gA,5,none⟩ = some (vi lo) ∧ w'.cell? ⟨gA,6,none⟩ = some (vi hi) ∧ w'.cell? ⟨gA,7,none⟩ = some (.slice x.A x.n x.c) ∧ w'.cell? ⟨gA,8,none⟩ = some (.slice y.A y.n y.c) ∧ w'.cell? ⟨gA,9,none⟩ = some (.slice z.A z.n z.c) ∧ w'.cell? ⟨gB,0,none⟩ = some (vi kb) ∧ w'.cell? ⟨gB,1,none⟩ = some (vi wb) ∧ w'.cell? ⟨gB,2,none⟩ = some (.slice q2.A q2.n q2.c) ∧ w'.cell? ⟨gB,3,none⟩ = some (vi cb) ∧ w'.cell? ⟨gB,4,none⟩ = some (vi sb) ∧ w'.cell? ⟨gB,5,none⟩ = some (vi lob) ∧ w'.cell? ⟨gB,6,none⟩ = some (vi hib) ∧ w'.cell? ⟨gB,7,none⟩ = some (.slice x2.A x2.n x2.c) ∧ w'.cell? ⟨gB,8,none⟩ = some (.slice y2.A y2.n y2.c) ∧ w'.cell? ⟨gB,9,none⟩ = some (.slice z2.A z2.n z2.c)) (first | with_reducible exact LS.out _ XD.out YD.out | with_reducible exact KS.out _ _ _ _ _ _ _ _ _ _  | with_reducible exact KT.out _ _ _ _ _ _ _ _ _ _ _ _ _ _ _ _ _ _ _ _ ) (fail)
  have FF := M.out.fill (vi ke) (vi wi) (.slice q.A q.n q.c) (vi c) (vi s) (vi lo) (vi hi) (.slice x.A x.n x.c) (.slice y.A y.n y.c) (.slice z.A z.n z.c) (vi kb) (vi wb) (.slice q2.A q2.n q2.c) (vi cb) (vi sb) (vi lob) (vi hib) (.slice x2.A x2.n x2.c) (.slice y2.A y2.n y2.c) (.slice z2.A z2.n z2.c);have n5 := N5.out;have n6 := A2.out
  go_wp2
  refine bodyPost_ret (results_cc rfl _ _ w.heap.size (w.heap.size + 1) 34 34 _ _ (0,0) (0,0) _ _ rfl (FF.1.below (below_drew (Below.refl _ _))) Try.underlying34 rfl (by kernel_rfl) rfl (FF.2.1.below (below_drew (Below.refl _ _))) Try.underlying34 rfl (by kernel_rfl)) rfl ?_;exact ⟨q,x,y,z,q2,x2,y2,z2,a,b,a2,b2,rfl,(S.out.kp FF.2.2.2 (.inl (by omega))).below (below_drew (Below.refl _ _)),(T.out.kp FF.2.2.2 (.inl (by omega))).below (below_drew (Below.refl _ _)),by omega,by omega,below_step FF.2.2.1 (below_drew (Below.refl _ _))⟩
theorem dea_walk {w : World} {v : Sl} {l : List Int} {ke wi c s lo hi kb wb cb sb lob hib : Int} {li lb : List S70} {h r hb rb : List Int} {R Rb : List (List Int)} (u : Bd w v l) (H : Aside0 (∀ W : World,Bd W v l → Calls Try.prog 57 #[.slice v.A v.n v.c] W (EtOut ke wi c s lo hi li h r R kb wb cb sb lob hib lb hb rb Rb W))) :
  Calls Try.prog 26 #[.slice v.A v.n v.c] w (EtOut ke wi c s lo hi li h r R kb wb cb sb lob hib lb hb rb Rb w) := by
 have M0 := mkA (two_in w)
 have U := mkA (u.below M0.out.l)
 clear u
 go_enter Try.func26,Try.ntmps26
 go_wp2_with fail
 refine (H.out _ U.out).mono ?_
 rintro e w1 ⟨q,x,y,z,q',x',y',z',a,b,a',b',rfl,hs,hs',ha,ha',hb_⟩
 clear U
 have na := Nat.le_trans M0.out.n ha
 have na' := Nat.le_trans M0.out.n ha'
 have M := mkA (M0.out.below hb_)
 have NA := mkA (And.intro na na')
 have S := mkA hs
 have T := mkA hs'
 clear hs hs' ha ha' hb_ M0 na na'
 obtain ⟨o0,o1,o2,o3,o4,o5,o6,o7,o8,o9⟩ := M.out.o.cells10
 have fo := M.out.o.fz
 obtain ⟨p_0,p_1,p_2,p_3,p_4,p_5,p_6,p_7,p_8,p_9⟩ := M.out.p.cells10
 have fp := M.out.p.fz
 have aL : w.heap.size ≠ w.heap.size + 1 := by omega
 go_wp2
 have FF := M.out.fill (vi ke) (vi wi) (.slice q.A q.n q.c) (vi c) (vi s) (vi lo) (vi hi) (.slice x.A x.n x.c) (.slice y.A y.n y.c) (.slice z.A z.n z.c) (vi kb) (vi wb) (.slice q'.A q'.n q'.c) (vi cb) (vi sb) (vi lob) (vi hib) (.slice x'.A x'.n x'.c) (.slice y'.A y'.n y'.c) (.slice z'.A z'.n z'.c)
 have bN := NA.out
 refine bodyPost_ret (results_cc rfl _ _ w.heap.size (w.heap.size + 1) 34 34 _ _ (0,0) (0,0) _ _ rfl FF.1 Try.underlying34 rfl (by kernel_rfl) rfl FF.2.1 Try.underlying34 rfl (by kernel_rfl)) rfl ?_
 exact ⟨q,x,y,z,q',x',y',z',a,b,a',b',rfl,S.out.kp FF.2.2.2 (.inl (by omega)),T.out.kp FF.2.2.2 (.inl (by omega)),by omega,by omega,FF.2.2.1⟩
theorem drawE_callD (k : Nat) {w : World} {v : Sl} {l L : List Int} {p0 q0 ke wi c s lo hi p1 q1 ke' wi' c' s' lo' hi' p2 q2 p3 q3 kx wx p4 q4 kb wb cb sb lob hib : Int} {li li' lb : List S70} {h r h' r' hb rb : List Int} {R R' Rb : List (List Int)} {t1 t2 : Bool} (u : Bd w v l) (F : EtF k l L p0 q0 ke wi c s lo hi li h r R p1 q1 ke' wi' c' s' lo' hi' li' h' r' R' p2 q2 t1 p3 q3 kx wx t2 p4 q4 kb wb cb sb lob hib lb hb rb Rb) :
  Calls Try.prog 26 #[.slice v.A v.n v.c] w fun e w' => ∃ (q x y z q' x' y' z' : Sl),e = .returned (.tuple #[.agg #[vi ke,vi wi,.slice q.A q.n q.c,vi c,vi s,vi lo,vi hi,.slice x.A x.n x.c,.slice y.A y.n y.c,.slice z.A z.n z.c],.agg #[vi kb,vi wb,.slice q'.A q'.n q'.c,vi cb,vi sb,vi lob,vi hib,.slice x'.A x'.n x'.c,.slice y'.A y'.n y'.c,.slice z'.A z'.n z'.c]]) ∧ Ed w' q x y z li h r R ∧ Ed w' q' x' y' z' lb hb rb Rb ∧ Below w.heap.size w w' := by
 refine (dea_walk u ⟨fun W uW => l6two k uW ⟨F⟩⟩).mono ?_
 rintro e w' ⟨q,x,y,z,q',x',y',z',a,b,a',b',he,h1,h2,_,_,hb_⟩
 exact ⟨q,x,y,z,q',x',y',z',he,h1.rd,h2.rd,hb_⟩

theorem esame_callD (k : Nat) {w : World} {q x y z q' x' y' z' : Sl} {l l' : List S70} {h r h' r' : List Int} {R R' : List (List Int)} (ke wi c s lo hi ke' wi' c' s' lo' hi' : Int) (t : Bool) (u : Ed w q x y z l h r R) (u' : Ed w q' x' y' z' l' h' r' R') (he : impl_EntrySame.f k ke wi l c s lo hi h r R ke' wi' l' c' s' lo' hi' h' r' R' = some t) :
  Calls Try.prog 29 #[.agg #[vi ke,vi wi,.slice q.A q.n q.c,vi c,vi s,vi lo,vi hi,.slice x.A x.n x.c,.slice y.A y.n y.c,.slice z.A z.n z.c],.agg #[vi ke',vi wi',.slice q'.A q'.n q'.c,vi c',vi s',vi lo',vi hi',.slice x'.A x'.n x'.c,.slice y'.A y'.n y'.c,.slice z'.A z'.n z'.c]] w fun e w' => e = .returned (.bool t) ∧ Below w.heap.size w w' := by
 rw [u.q.e,u.s.e4,u.s.e5,u.s.e6,u'.q.e,u'.s.e4,u'.s.e5,u'.s.e6]
 exact impl_EntrySame.calls k ke wi _ _ l c s lo hi _ _ h _ _ r _ _ R ke' wi' _ _ l' c' s' lo' hi' _ _ h' _ _ r' _ _ R' t w u.q.C u.q.le u.s.C4 u.s.l4 u.s.C5 u.s.l5 u.s.C6 u.s.l6 u'.q.C u'.q.le u'.s.C4 u'.s.l4 u'.s.C5 u'.s.l5 u'.s.C6 u'.s.l6 he
theorem esize_callD (k : Nat) {w : World} {q x y z : Sl} {l : List S70} {h r : List Int} {R : List (List Int)} (ke wi c s lo hi t : Int) (u : Ed w q x y z l h r R) (he : impl_EntrySize.f k ke wi l c s lo hi h r R = some t) :
  Calls Try.prog 30 #[.agg #[vi ke,vi wi,.slice q.A q.n q.c,vi c,vi s,vi lo,vi hi,.slice x.A x.n x.c,.slice y.A y.n y.c,.slice z.A z.n z.c]] w fun e w' => e = .returned (vi t) ∧ Below w.heap.size w w' := by
 rw [u.q.e,u.s.e4,u.s.e5,u.s.e6]
 exact impl_EntrySize.calls k ke wi _ _ l c s lo hi _ _ h _ _ r _ _ R t w u.q.C u.q.le u.s.C4 u.s.l4 u.s.C5 u.s.l5 u.s.C6 u.s.l6 he
def EtE (k : Nat) (l : List Int) (ke wi c s lo hi : Int) (li : List S70) (h r : List Int) (R : List (List Int)) (kb wb cb sb lob hib : Int) (lb : List S70) (hb rb : List Int) (Rb : List (List Int)) : Prop :=
 ∃ (L : List Int) (p0 q0 p1 q1 ke' wi' c' s' lo' hi' : Int) (li' : List S70) (h' r' : List Int) (R' : List (List Int)) (p2 q2 : Int) (t1 : Bool) (p3 q3 kx wx : Int) (t2 : Bool) (p4 q4 : Int),EtF k l L p0 q0 ke wi c s lo hi li h r R p1 q1 ke' wi' c' s' lo' hi' li' h' r' R' p2 q2 t1 p3 q3 kx wx t2 p4 q4 kb wb cb sb lob hib lb hb rb Rb
theorem drawEE_callD (k : Nat) {w : World} {v : Sl} {l : List Int} (ke wi c s lo hi kb wb cb sb lob hib : Int) {li lb : List S70} {h r hb rb : List Int} {R Rb : List (List Int)} (u : Bd w v l) (F : EtE k l ke wi c s lo hi li h r R kb wb cb sb lob hib lb hb rb Rb) :
  Calls Try.prog 26 #[.slice v.A v.n v.c] w fun e w' => ∃ (q x y z q' x' y' z' : Sl),e = .returned (.tuple #[.agg #[vi ke,vi wi,.slice q.A q.n q.c,vi c,vi s,vi lo,vi hi,.slice x.A x.n x.c,.slice y.A y.n y.c,.slice z.A z.n z.c],.agg #[vi kb,vi wb,.slice q'.A q'.n q'.c,vi cb,vi sb,vi lob,vi hib,.slice x'.A x'.n x'.c,.slice y'.A y'.n y'.c,.slice z'.A z'.n z'.c]]) ∧ Ed w' q x y z li h r R ∧ Ed w' q' x' y' z' lb hb rb Rb ∧ Below w.heap.size w w' := by
 obtain ⟨L,p0,q0,p1,q1,ke',wi',c',s',lo',hi',li',h',r',R',p2,q2,t1,p3,q3,kx,wx,t2,p4,q4,F⟩ := F
 exact drawE_callD k u F
structure FeN (k : Nat) (l : List Int) (ke wi c s lo hi : Int) (li : List S70) (h r : List Int) (R : List (List Int)) (kb wb cb sb lob hib : Int) (lb : List S70) (hb rb : List Int) (Rb : List (List Int)) : Prop where
 B : laws_big.f l = some false
 D : EtE k l ke wi c s lo hi li h r R kb wb cb sb lob hib lb hb rb Rb
 I : ImplA ke wi li c s lo hi h r R kb wb lb cb sb lob hib hb rb Rb 0 0 [] 0 0 0 0 [] [] [] false
 J : ImplA kb wb lb cb sb lob hib hb rb Rb ke wi li c s lo hi h r R 0 0 [] 0 0 0 0 [] [] [] false
 S : SpecA ke wi li c s lo hi h r R kb wb lb cb sb lob hib hb rb Rb 0 0 [] 0 0 0 0 [] [] [] false
structure FeY (k : Nat) (l : List Int) (ke wi c s lo hi : Int) (li : List S70) (h r : List Int) (R : List (List Int)) (kb wb cb sb lob hib : Int) (lb : List S70) (hb rb : List Int) (Rb : List (List Int)) (c1 s1 aa ab : Int) (l1 : List S70) (h1 r1 : List Int) (R1 : List (List Int)) (n2 n3 m1 m2 m3 : Int) : Prop where
 B : laws_big.f l = some false
 D : EtE k l ke wi c s lo hi li h r R kb wb cb sb lob hib lb hb rb Rb
 I : ImplA ke wi li c s lo hi h r R kb wb lb cb sb lob hib hb rb Rb ke wi l1 c1 s1 aa ab h1 r1 R1 true
 J : ImplA kb wb lb cb sb lob hib hb rb Rb ke wi li c s lo hi h r R ke wi l1 c1 s1 aa ab h1 r1 R1 true
 S : SpecA ke wi li c s lo hi h r R kb wb lb cb sb lob hib hb rb Rb ke wi l1 c1 s1 aa ab h1 r1 R1 true
 X : ImplA ke wi l1 c1 s1 aa ab h1 r1 R1 kb wb lb cb sb lob hib hb rb Rb 0 0 [] 0 0 0 0 [] [] [] false
 A : ImplA ke wi li c s lo hi h r R ke wi li c s lo hi h r R 0 0 [] 0 0 0 0 [] [] [] false
 E : impl_EntrySame.f k ke wi l1 c1 s1 aa ab h1 r1 R1 ke wi l1 c1 s1 aa ab h1 r1 R1 = some true
 O : impl_EntryOk.f k ke wi l1 c1 s1 aa ab h1 r1 R1 = some true
 N1 : impl_SetSize.f k l1 = some (IntKind.i64.wrap (n2 + n3))
 N2 : impl_SetSize.f k li = some n2
 N3 : impl_SetSize.f k lb = some n3
 M1 : impl_EntrySize.f k ke wi l1 c1 s1 aa ab h1 r1 R1 = some m1
 M2 : impl_EntrySize.f k ke wi li c s lo hi h r R = some m2
 M3 : impl_EntrySize.f k kb wb lb cb sb lob hib hb rb Rb = some m3
 Q : m1 ≤ IntKind.i64.wrap (m2 + m3)
 C : c ≤ c1
theorem lawYes (k : Nat) (A : Option Addr) (cp : Nat) (l : List Int) (w : World) (u : Bd w ⟨A,l.length,cp⟩ l) (ke wi c s lo hi kb wb cb sb lob hib c1 s1 aa ab n2 n3 m1 m2 m3 : Int) (li lb l1 : List S70) (h r hb rb h1 r1 : List Int) (R Rb R1 : List (List Int))
  (F : Aside0 (FeY k l ke wi c s lo hi li h r R kb wb cb sb lob hib lb hb rb Rb c1 s1 aa ab l1 h1 r1 R1 n2 n3 m1 m2 m3)) :
  Calls Try.prog 5 #[.slice A l.length cp] w fun e w' => e = .returned (.bool true) ∧ Below w.heap.size w w' := by
 have U0 := mkA u
 have aG := mkA (Below.refl w.heap.size w)
 clear u
 go_enter Try.func5,Try.ntmps5
 go_wp2_with fail
 refine (big_callD (U0.out.below aG.out) F.out.B).mono ?_
 rintro e w1 ⟨rfl,hb⟩
 have HB_1 := mkA (below_step aG.out hb)
 clear aG hb
 go_wp2_with fail
 refine (drawEE_callD k ke wi c s lo hi kb wb cb sb lob hib (U0.out.below HB_1.out) F.out.D).mono ?_
 rintro e w2 ⟨qa,xa,ya,za,qb,xb,yb,zb,rfl,hs,aJ,hb⟩
 have A_3 := mkA hs
 clear hs
 have B_4 := mkA aJ
 clear aJ
 have HB_5 := mkA (below_step HB_1.out hb)
 clear HB_1 hb
 have hal := mkA (below_alloc (Below.refl _ w2) (.cells #[vi ke,vi wi,.slice qa.A qa.n qa.c,vi c,vi s,vi lo,vi hi,.slice xa.A xa.n xa.c,.slice ya.A ya.n ya.c,.slice za.A za.n za.c] 34))
 have A_7 := mkA (A_3.out.below hal.out)
 have B_8 := mkA (B_4.out.below hal.out)
 have HB_9 := mkA (below_step HB_5.out hal.out)
 have ba_11 := mkA (Bx.new w2 34 #[vi ke,vi wi,.slice qa.A qa.n qa.c,vi c,vi s,vi lo,vi hi,.slice xa.A xa.n xa.c,.slice ya.A ya.n ya.c,.slice za.A za.n za.c])
 clear A_3 B_4 HB_5 hal
 have hal := mkA (below_alloc (Below.refl _ (w2.alloc (.cells #[vi ke,vi wi,.slice qa.A qa.n qa.c,vi c,vi s,vi lo,vi hi,.slice xa.A xa.n xa.c,.slice ya.A ya.n ya.c,.slice za.A za.n za.c] 34))) (.cells #[vi kb,vi wb,.slice qb.A qb.n qb.c,vi cb,vi sb,vi lob,vi hib,.slice xb.A xb.n xb.c,.slice yb.A yb.n yb.c,.slice zb.A zb.n zb.c] 34))
 have A_12 := mkA (A_7.out.below hal.out)
 have B_13 := mkA (B_8.out.below hal.out)
 have ba_14 := mkA (ba_11.out.below hal.out)
 have HB_15 := mkA (below_step HB_9.out hal.out)
 have bb_17 := mkA ((show Bx ((w2.alloc (.cells #[vi ke,vi wi,.slice qa.A qa.n qa.c,vi c,vi s,vi lo,vi hi,.slice xa.A xa.n xa.c,.slice ya.A ya.n ya.c,.slice za.A za.n za.c] 34)).alloc (.cells #[vi kb,vi wb,.slice qb.A qb.n qb.c,vi cb,vi sb,vi lob,vi hib,.slice xb.A xb.n xb.c,.slice yb.A yb.n yb.c,.slice zb.A zb.n zb.c] 34)) (w2.heap.size + 1) 34 #[vi kb,vi wb,.slice qb.A qb.n qb.c,vi cb,vi sb,vi lob,vi hib,.slice xb.A xb.n xb.c,.slice yb.A yb.n yb.c,.slice zb.A zb.n zb.c] from (show (w2.alloc (.cells #[vi ke,vi wi,.slice qa.A qa.n qa.c,vi c,vi s,vi lo,vi hi,.slice xa.A xa.n xa.c,.slice ya.A ya.n ya.c,.slice za.A za.n za.c] 34)).heap.size = w2.heap.size + 1 by simp) ▸ Bx.new (w2.alloc (.cells #[vi ke,vi wi,.slice qa.A qa.n qa.c,vi c,vi s,vi lo,vi hi,.slice xa.A xa.n xa.c,.slice ya.A ya.n ya.c,.slice za.A za.n za.c] 34)) 34 #[vi kb,vi wb,.slice qb.A qb.n qb.c,vi cb,vi sb,vi lob,vi hib,.slice xb.A xb.n xb.c,.slice yb.A yb.n yb.c,.slice zb.A zb.n zb.c]))
 clear A_7 B_8 ba_11 HB_9 hal
 obtain ⟨ba17c0,ba17c1,ba17c2,ba17c3,ba17c4,ba17c5,ba17c6,ba17c7,ba17c8,ba17c9⟩ := ba_14.out.cells10
 obtain ⟨bb18c0,bb18c1,bb18c2,bb18c3,bb18c4,bb18c5,bb18c6,bb18c7,bb18c8,bb18c9⟩ := bb_17.out.cells10
 go_wp2_with fail
 clear ba17c0 ba17c1 ba17c2 ba17c3 ba17c4 ba17c5 ba17c6 ba17c7 ba17c8 ba17c9 bb18c0 bb18c1 bb18c2 bb18c3 bb18c4 bb18c5 bb18c6 bb18c7 bb18c8 bb18c9
 refine (implA_callD k ke wi c s lo hi kb wb cb sb lob hib ke wi c1 s1 aa ab l1 h1 r1 R1 true A_12.out B_13.out F.out.I).mono ?_
 rintro e w3 ⟨q1,x1,y1,z1,a1,b1,rfl,hs,hm,hb⟩
 have X_20 := mkA hs
 clear hs
 clear hm
 have A_22 := mkA (A_12.out.below hb)
 have B_23 := mkA (B_13.out.below hb)
 have ba_24 := mkA (ba_14.out.below hb)
 have bb_25 := mkA (bb_17.out.below hb)
 have HB_26 := mkA (below_step HB_15.out hb)
 clear A_12 B_13 ba_14 bb_17 HB_15 hb
 have hal := mkA (below_alloc (Below.refl _ w3) (.cells #[vi ke,vi wi,.slice q1.A q1.n q1.c,vi c1,vi s1,vi aa,vi ab,.slice x1.A x1.n x1.c,.slice y1.A y1.n y1.c,.slice z1.A z1.n z1.c] 34))
 have A_28 := mkA (A_22.out.below hal.out)
 have B_29 := mkA (B_23.out.below hal.out)
 have ba_30 := mkA (ba_24.out.below hal.out)
 have bb_31 := mkA (bb_25.out.below hal.out)
 have X_32 := mkA (X_20.out.below hal.out)
 have HB_33 := mkA (below_step HB_26.out hal.out)
 have bx_35 := mkA (Bx.new w3 34 #[vi ke,vi wi,.slice q1.A q1.n q1.c,vi c1,vi s1,vi aa,vi ab,.slice x1.A x1.n x1.c,.slice y1.A y1.n y1.c,.slice z1.A z1.n z1.c])
 clear A_22 B_23 ba_24 bb_25 X_20 HB_26 hal
 obtain ⟨bb35c0,bb35c1,bb35c2,bb35c3,bb35c4,bb35c5,bb35c6,bb35c7,bb35c8,bb35c9⟩ := bb_31.out.cells10
 obtain ⟨ba36c0,ba36c1,ba36c2,ba36c3,ba36c4,ba36c5,ba36c6,ba36c7,ba36c8,ba36c9⟩ := ba_30.out.cells10
 go_wp2_with fail
 clear bb35c0 bb35c1 bb35c2 bb35c3 bb35c4 bb35c5 bb35c6 bb35c7 bb35c8 bb35c9 ba36c0 ba36c1 ba36c2 ba36c3 ba36c4 ba36c5 ba36c6 ba36c7 ba36c8 ba36c9
 refine (implA_callD k kb wb cb sb lob hib ke wi c s lo hi ke wi c1 s1 aa ab l1 h1 r1 R1 true B_29.out A_28.out F.out.J).mono ?_
 rintro e w4 ⟨q2,x2,y2,z2,a2,b2,rfl,hs,hm,hb⟩
 have Y_38 := mkA hs
 clear hs
 clear hm
 have A_40 := mkA (A_28.out.below hb)
 have B_41 := mkA (B_29.out.below hb)
 have ba_42 := mkA (ba_30.out.below hb)
 have bb_43 := mkA (bb_31.out.below hb)
 have X_44 := mkA (X_32.out.below hb)
 have bx_45 := mkA (bx_35.out.below hb)
 have HB_46 := mkA (below_step HB_33.out hb)
 clear A_28 B_29 ba_30 bb_31 X_32 bx_35 HB_33 hb
 have hal := mkA (below_alloc (Below.refl _ w4) (.cells #[vi ke,vi wi,.slice q2.A q2.n q2.c,vi c1,vi s1,vi aa,vi ab,.slice x2.A x2.n x2.c,.slice y2.A y2.n y2.c,.slice z2.A z2.n z2.c] 34))
 have A_48 := mkA (A_40.out.below hal.out)
 have B_49 := mkA (B_41.out.below hal.out)
 have ba_50 := mkA (ba_42.out.below hal.out)
 have bb_51 := mkA (bb_43.out.below hal.out)
 have X_52 := mkA (X_44.out.below hal.out)
 have bx_53 := mkA (bx_45.out.below hal.out)
 have Y_54 := mkA (Y_38.out.below hal.out)
 have HB_55 := mkA (below_step HB_46.out hal.out)
 have by_57 := mkA (Bx.new w4 34 #[vi ke,vi wi,.slice q2.A q2.n q2.c,vi c1,vi s1,vi aa,vi ab,.slice x2.A x2.n x2.c,.slice y2.A y2.n y2.c,.slice z2.A z2.n z2.c])
 clear A_40 B_41 ba_42 bb_43 X_44 bx_45 Y_38 HB_46 hal
 obtain ⟨ba57c0,ba57c1,ba57c2,ba57c3,ba57c4,ba57c5,ba57c6,ba57c7,ba57c8,ba57c9⟩ := ba_50.out.cells10
 obtain ⟨bb58c0,bb58c1,bb58c2,bb58c3,bb58c4,bb58c5,bb58c6,bb58c7,bb58c8,bb58c9⟩ := bb_51.out.cells10
 go_wp2_with fail
 clear ba57c0 ba57c1 ba57c2 ba57c3 ba57c4 ba57c5 ba57c6 ba57c7 ba57c8 ba57c9 bb58c0 bb58c1 bb58c2 bb58c3 bb58c4 bb58c5 bb58c6 bb58c7 bb58c8 bb58c9
 refine (specA_callD k ke wi c s lo hi kb wb cb sb lob hib ke wi c1 s1 aa ab l1 h1 r1 R1 true A_48.out B_49.out F.out.S).mono ?_
 rintro e w5 ⟨q3,x3,y3,z3,a3,b3,rfl,hs,hm,hb⟩
 have W_60 := mkA hs
 clear hs
 clear hm
 have A_62 := mkA (A_48.out.below hb)
 have B_63 := mkA (B_49.out.below hb)
 have ba_64 := mkA (ba_50.out.below hb)
 have bb_65 := mkA (bb_51.out.below hb)
 have X_66 := mkA (X_52.out.below hb)
 have bx_67 := mkA (bx_53.out.below hb)
 have Y_68 := mkA (Y_54.out.below hb)
 have by_69 := mkA (by_57.out.below hb)
 have HB_70 := mkA (below_step HB_55.out hb)
 clear A_48 B_49 ba_50 bb_51 X_52 bx_53 Y_54 by_57 HB_55 hb
 have hal := mkA (below_alloc (Below.refl _ w5) (.cells #[vi ke,vi wi,.slice q3.A q3.n q3.c,vi c1,vi s1,vi aa,vi ab,.slice x3.A x3.n x3.c,.slice y3.A y3.n y3.c,.slice z3.A z3.n z3.c] 34))
 have A_72 := mkA (A_62.out.below hal.out)
 have B_73 := mkA (B_63.out.below hal.out)
 have ba_74 := mkA (ba_64.out.below hal.out)
 have bb_75 := mkA (bb_65.out.below hal.out)
 have X_76 := mkA (X_66.out.below hal.out)
 have bx_77 := mkA (bx_67.out.below hal.out)
 have Y_78 := mkA (Y_68.out.below hal.out)
 have by_79 := mkA (by_69.out.below hal.out)
 have W_80 := mkA (W_60.out.below hal.out)
 have HB_81 := mkA (below_step HB_70.out hal.out)
 have bw_83 := mkA (Bx.new w5 34 #[vi ke,vi wi,.slice q3.A q3.n q3.c,vi c1,vi s1,vi aa,vi ab,.slice x3.A x3.n x3.c,.slice y3.A y3.n y3.c,.slice z3.A z3.n z3.c])
 clear A_62 B_63 ba_64 bb_65 X_66 bx_67 Y_68 by_69 W_60 HB_70 hal
 clear W_80 bw_83
 obtain ⟨bx83c0,bx83c1,bx83c2,bx83c3,bx83c4,bx83c5,bx83c6,bx83c7,bx83c8,bx83c9⟩ := bx_77.out.cells10
 obtain ⟨bb84c0,bb84c1,bb84c2,bb84c3,bb84c4,bb84c5,bb84c6,bb84c7,bb84c8,bb84c9⟩ := bb_75.out.cells10
 go_wp2_with fail
 clear bx83c0 bx83c1 bx83c2 bx83c3 bx83c4 bx83c5 bx83c6 bx83c7 bx83c8 bx83c9 bb84c0 bb84c1 bb84c2 bb84c3 bb84c4 bb84c5 bb84c6 bb84c7 bb84c8 bb84c9
 refine (implA_callD k ke wi c1 s1 aa ab kb wb cb sb lob hib 0 0 0 0 0 0 [] [] [] [] false X_76.out.rd B_73.out F.out.X).mono ?_
 rintro e w6 ⟨q4,x4,y4,z4,a4,b4,rfl,hs,hm,hb⟩
 have V_86 := mkA hs
 clear hs
 clear hm
 have A_88 := mkA (A_72.out.below hb)
 have B_89 := mkA (B_73.out.below hb)
 have ba_90 := mkA (ba_74.out.below hb)
 have bb_91 := mkA (bb_75.out.below hb)
 have X_92 := mkA (X_76.out.below hb)
 have bx_93 := mkA (bx_77.out.below hb)
 have Y_94 := mkA (Y_78.out.below hb)
 have by_95 := mkA (by_79.out.below hb)
 have HB_96 := mkA (below_step HB_81.out hb)
 clear A_72 B_73 ba_74 bb_75 X_76 bx_77 Y_78 by_79 HB_81 hb
 have hal := mkA (below_alloc (Below.refl _ w6) (.cells #[vi 0,vi 0,.slice q4.A q4.n q4.c,vi 0,vi 0,vi 0,vi 0,.slice x4.A x4.n x4.c,.slice y4.A y4.n y4.c,.slice z4.A z4.n z4.c] 34))
 have A_98 := mkA (A_88.out.below hal.out)
 have B_99 := mkA (B_89.out.below hal.out)
 have ba_100 := mkA (ba_90.out.below hal.out)
 have bb_101 := mkA (bb_91.out.below hal.out)
 have X_102 := mkA (X_92.out.below hal.out)
 have bx_103 := mkA (bx_93.out.below hal.out)
 have Y_104 := mkA (Y_94.out.below hal.out)
 have by_105 := mkA (by_95.out.below hal.out)
 have V_106 := mkA (V_86.out.below hal.out)
 have HB_107 := mkA (below_step HB_96.out hal.out)
 have bv_109 := mkA (Bx.new w6 34 #[vi 0,vi 0,.slice q4.A q4.n q4.c,vi 0,vi 0,vi 0,vi 0,.slice x4.A x4.n x4.c,.slice y4.A y4.n y4.c,.slice z4.A z4.n z4.c])
 clear A_88 B_89 ba_90 bb_91 X_92 bx_93 Y_94 by_95 V_86 HB_96 hal
 clear V_106 bv_109
 obtain ⟨ba109c0,ba109c1,ba109c2,ba109c3,ba109c4,ba109c5,ba109c6,ba109c7,ba109c8,ba109c9⟩ := ba_100.out.cells10
 go_wp2_with fail
 clear ba109c0 ba109c1 ba109c2 ba109c3 ba109c4 ba109c5 ba109c6 ba109c7 ba109c8 ba109c9
 refine (implA_callD k ke wi c s lo hi ke wi c s lo hi 0 0 0 0 0 0 [] [] [] [] false A_98.out A_98.out F.out.A).mono ?_
 rintro e w7 ⟨q5,x5,y5,z5,a5,b5,rfl,hs,hm,hb⟩
 have V_111 := mkA hs
 clear hs
 clear hm
 have A_113 := mkA (A_98.out.below hb)
 have B_114 := mkA (B_99.out.below hb)
 have ba_115 := mkA (ba_100.out.below hb)
 have bb_116 := mkA (bb_101.out.below hb)
 have X_117 := mkA (X_102.out.below hb)
 have bx_118 := mkA (bx_103.out.below hb)
 have Y_119 := mkA (Y_104.out.below hb)
 have by_120 := mkA (by_105.out.below hb)
 have HB_121 := mkA (below_step HB_107.out hb)
 clear A_98 B_99 ba_100 bb_101 X_102 bx_103 Y_104 by_105 HB_107 hb
 have hal := mkA (below_alloc (Below.refl _ w7) (.cells #[vi 0,vi 0,.slice q5.A q5.n q5.c,vi 0,vi 0,vi 0,vi 0,.slice x5.A x5.n x5.c,.slice y5.A y5.n y5.c,.slice z5.A z5.n z5.c] 34))
 have A_123 := mkA (A_113.out.below hal.out)
 have B_124 := mkA (B_114.out.below hal.out)
 have ba_125 := mkA (ba_115.out.below hal.out)
 have bb_126 := mkA (bb_116.out.below hal.out)
 have X_127 := mkA (X_117.out.below hal.out)
 have bx_128 := mkA (bx_118.out.below hal.out)
 have Y_129 := mkA (Y_119.out.below hal.out)
 have by_130 := mkA (by_120.out.below hal.out)
 have V_131 := mkA (V_111.out.below hal.out)
 have HB_132 := mkA (below_step HB_121.out hal.out)
 have bv_134 := mkA (Bx.new w7 34 #[vi 0,vi 0,.slice q5.A q5.n q5.c,vi 0,vi 0,vi 0,vi 0,.slice x5.A x5.n x5.c,.slice y5.A y5.n y5.c,.slice z5.A z5.n z5.c])
 clear A_113 B_114 ba_115 bb_116 X_117 bx_118 Y_119 by_120 V_111 HB_121 hal
 clear V_131 bv_134
 go_upto_region 13 with (fail)
 have bO := F.out.Q
 have bP : decide (m1 ≤ IntKind.i64.wrap (m2 + m3)) = true := decide_eq_true F.out.Q
 have bQ := F.out.C
 have bR : decide (c ≤ c1) = true := decide_eq_true F.out.C
 go_wp2_with fail
 have LS := mkA (show ∀ w',Below (w7.alloc (.cells #[vi 0,vi 0,.slice q5.A q5.n q5.c,vi 0,vi 0,vi 0,vi 0,.slice x5.A x5.n x5.c,.slice y5.A y5.n y5.c,.slice z5.A z5.n z5.c] 34)).heap.size (w7.alloc (.cells #[vi 0,vi 0,.slice q5.A q5.n q5.c,vi 0,vi 0,vi 0,vi 0,.slice x5.A x5.n x5.c,.slice y5.A y5.n y5.c,.slice z5.A z5.n z5.c] 34)) w' → w'.cell? ⟨w2.heap.size,0,none⟩ = some (vi ke) ∧ w'.cell? ⟨w2.heap.size,1,none⟩ = some (vi wi) ∧ w'.cell? ⟨w2.heap.size,2,none⟩ = some (.slice qa.A qa.n qa.c) ∧ w'.cell? ⟨w2.heap.size,3,none⟩ = some (vi c) ∧ w'.cell? ⟨w2.heap.size,4,none⟩ = some (vi s) ∧ w'.cell? ⟨w2.heap.size,5,none⟩ = some (vi lo) ∧ w'.cell? ⟨w2.heap.size,6,none⟩ = some (vi hi) ∧ w'.cell? ⟨w2.heap.size,7,none⟩ = some (.slice xa.A xa.n xa.c) ∧ w'.cell? ⟨w2.heap.size,8,none⟩ = some (.slice ya.A ya.n ya.c) ∧ w'.cell? ⟨w2.heap.size,9,none⟩ = some (.slice za.A za.n za.c) ∧ w'.cell? ⟨w2.heap.size + 1,0,none⟩ = some (vi kb) ∧ w'.cell? ⟨w2.heap.size + 1,1,none⟩ = some (vi wb) ∧ w'.cell? ⟨w2.heap.size + 1,2,none⟩ = some (.slice qb.A qb.n qb.c) ∧ w'.cell? ⟨w2.heap.size + 1,3,none⟩ = some (vi cb) ∧ w'.cell? ⟨w2.heap.size + 1,4,none⟩ = some (vi sb) ∧ w'.cell? ⟨w2.heap.size + 1,5,none⟩ = some (vi lob) ∧ w'.cell? ⟨w2.heap.size + 1,6,none⟩ = some (vi hib) ∧ w'.cell? ⟨w2.heap.size + 1,7,none⟩ = some (.slice xb.A xb.n xb.c) ∧ w'.cell? ⟨w2.heap.size + 1,8,none⟩ = some (.slice yb.A yb.n yb.c) ∧ w'.cell? ⟨w2.heap.size + 1,9,none⟩ = some (.slice zb.A zb.n zb.c) ∧ w'.cell? ⟨w3.heap.size,0,none⟩ = some (vi ke) ∧ w'.cell? ⟨w3.heap.size,1,none⟩ = some (vi wi) ∧ w'.cell? ⟨w3.heap.size,2,none⟩ = some (.slice q1.A q1.n q1.c) ∧ w'.cell? ⟨w3.heap.size,3,none⟩ = some (vi c1) ∧ w'.cell? ⟨w3.heap.size,4,none⟩ = some (vi s1) ∧ w'.cell? ⟨w3.heap.size,5,none⟩ = some (vi aa) ∧ w'.cell? ⟨w3.heap.size,6,none⟩ = some (vi ab) ∧ w'.cell? ⟨w3.heap.size,7,none⟩ = some (.slice x1.A x1.n x1.c) ∧ w'.cell? ⟨w3.heap.size,8,none⟩ = some (.slice y1.A y1.n y1.c) ∧ w'.cell? ⟨w3.heap.size,9,none⟩ = some (.slice z1.A z1.n z1.c) ∧ w'.cell? ⟨w4.heap.size,0,none⟩ = some (vi ke) ∧ w'.cell? ⟨w4.heap.size,1,none⟩ = some (vi wi) ∧ w'.cell? ⟨w4.heap.size,2,none⟩ = some (.slice q2.A q2.n q2.c) ∧ w'.cell? ⟨w4.heap.size,3,none⟩ = some (vi c1) ∧ w'.cell? ⟨w4.heap.size,4,none⟩ = some (vi s1) ∧ w'.cell? ⟨w4.heap.size,5,none⟩ = some (vi aa) ∧ w'.cell? ⟨w4.heap.size,6,none⟩ = some (vi ab) ∧ w'.cell? ⟨w4.heap.size,7,none⟩ = some (.slice x2.A x2.n x2.c) ∧ w'.cell? ⟨w4.heap.size,8,none⟩ = some (.slice y2.A y2.n y2.c) ∧ w'.cell? ⟨w4.heap.size,9,none⟩ = some (.slice z2.A z2.n z2.c) from fun w' F => by
  obtain ⟨aM,aN,aO,aP,aQ,aR,aS,aT,aU,aV⟩ := (ba_125.out.below F).cells10;obtain ⟨aW,aX,aY,aZ,bc,bd,bf,bg,bh,bk⟩ := (bb_126.out.below F).cells10;obtain ⟨bo,bp,bq,br,bs,bu,bw,bz,b0,b7⟩ := (bx_128.out.below F).cells10;obtain ⟨b8,b9,bA,bB,bC,bD,bE,bF,bG,bH⟩ := (by_130.out.below F).cells10
  exact ⟨aM,aN,aO,aP,aQ,aR,aS,aT,aU,aV,aW,aX,aY,aZ,bc,bd,bf,bg,bh,bk,bo,bp,bq,br,bs,bu,bw,bz,b0,b7,b8,b9,bA,bB,bC,bD,bE,bF,bG,bH⟩)
 have B0 := mkA (show Below (w7.alloc (.cells #[vi 0,vi 0,.slice q5.A q5.n q5.c,vi 0,vi 0,vi 0,vi 0,.slice x5.A x5.n x5.c,.slice y5.A y5.n y5.c,.slice z5.A z5.n z5.c] 34)).heap.size (w7.alloc (.cells #[vi 0,vi 0,.slice q5.A q5.n q5.c,vi 0,vi 0,vi 0,vi 0,.slice x5.A x5.n x5.c,.slice y5.A y5.n y5.c,.slice z5.A z5.n z5.c] 34)) (w7.alloc (.cells #[vi 0,vi 0,.slice q5.A q5.n q5.c,vi 0,vi 0,vi 0,vi 0,.slice x5.A x5.n x5.c,.slice y5.A y5.n y5.c,.slice z5.A z5.n z5.c] 34)).drew from below_drew (Below.refl _ _))
 go_region_held3 (fun w' => w'.cell? ⟨w2.heap.size,0,none⟩ = some (vi ke) ∧ w'.cell? ⟨w2.heap.size,1,none⟩ = some (vi wi) ∧ w'.cell? ⟨w2.heap.size,2,none⟩ = some (.slice qa.A qa.n qa.c) ∧ w'.cell? ⟨w2.heap.size,3,none⟩ = some (vi c) ∧ w'.cell? ⟨w2.heap.size,4,none⟩ = some (vi s) ∧ w'.cell? ⟨w2.heap.size,5,none⟩ = some (vi lo) ∧ w'.cell? ⟨w2.heap.size,6,none⟩ = some (vi hi) ∧ w'.cell? ⟨w2.heap.size,7,none⟩ = some (.slice xa.A xa.n xa.c) ∧ w'.cell? ⟨w2.heap.size,8,none⟩ = some (.slice ya.A ya.n ya.c) ∧ w'.cell? ⟨w2.heap.size,9,none⟩ = some (.slice za.A za.n za.c) ∧ w'.cell? ⟨w2.heap.size + 1,0,none⟩ = some (vi kb) ∧ w'.cell? ⟨w2.heap.size + 1,1,none⟩ = some (vi wb) ∧ w'.cell? ⟨w2.heap.size + 1,2,none⟩ = some (.slice qb.A qb.n qb.c) ∧ w'.cell? ⟨w2.heap.size + 1,3,none⟩ = some (vi cb) ∧ w'.cell? ⟨w2.heap.size + 1,4,none⟩ = some (vi sb) ∧ w'.cell? ⟨w2.heap.size + 1,5,none⟩ = some (vi lob) ∧ w'.cell? ⟨w2.heap.size + 1,6,none⟩ = some (vi hib) ∧ w'.cell? ⟨w2.heap.size + 1,7,none⟩ = some (.slice xb.A xb.n xb.c) ∧ w'.cell? ⟨w2.heap.size + 1,8,none⟩ = some (.slice yb.A yb.n yb.c) ∧ w'.cell? ⟨w2.heap.size + 1,9,none⟩ = some (.slice zb.A zb.n zb.c) ∧ w'.cell? ⟨w3.heap.size,0,none⟩ = some (vi ke) ∧ w'.cell? ⟨w3.heap.size,1,none⟩ = some (vi wi) ∧ w'.cell? ⟨w3.heap.size,2,none⟩ = some (.slice q1.A q1.n q1.c) ∧ w'.cell? ⟨w3.heap.size,3,none⟩ = some (vi c1) ∧ w'.cell? ⟨w3.heap.size,4,none⟩ = some (vi s1) ∧ w'.cell? ⟨w3.heap.size,5,none⟩ = some (vi aa) ∧ w'.cell? ⟨w3.heap.size,6,none⟩ = some (vi ab) ∧ w'.cell? ⟨w3.heap.size,7,none⟩ = some (.slice x1.A x1.n x1.c) ∧ w'.cell? ⟨w3.heap.size,8,none⟩ = some (.slice y1.A y1.n y1.c) ∧ w'.cell? ⟨w3.heap.size,9,none⟩ = some (.slice z1.A z1.n z1.c) ∧ w'.cell? ⟨w4.heap.size,0,none⟩ = some (vi ke) ∧ w'.cell? ⟨w4.heap.size,1,none⟩ = some (vi wi) ∧ w'.cell? ⟨w4.heap.size,2,none⟩ = some (.slice q2.A q2.n q2.c) ∧ w'.cell? ⟨w4.heap.size,3,none⟩ = some (vi c1) ∧ w'.cell? ⟨w4.heap.size,4,none⟩ = some (vi s1) ∧ w'.cell? ⟨w4.heap.size,5,none⟩ = some (vi aa) ∧ w'.cell? ⟨w4.heap.size,6,none⟩ = some (vi ab) ∧ w'.cell? ⟨w4.heap.size,7,none⟩ = some (.slice x2.A x2.n x2.c) ∧ w'.cell? ⟨w4.heap.size,8,none⟩ = some (.slice y2.A y2.n y2.c) ∧ w'.cell? ⟨w4.heap.size,9,none⟩ = some (.slice z2.A z2.n z2.c)) (first | with_reducible exact LS.out _ B0.out | with_reducible exact LS.out _ B1.out | with_reducible exact LS.out _ B2.out | with_reducible exact LS.out _ B3.out | with_reducible exact LS.out _ B4.out | with_reducible exact LS.out _ B5.out | with_reducible exact LS.out _ B6.out | with_reducible exact LS.out _ B7.out | with_reducible exact LS.out _ B8.out) (first | (go_at_call 29;(with_reducible refine (esame_callD k ke wi c1 s1 aa ab ke wi c1 s1 aa ab true (X_127.out.rd.below B0.out) (Y_129.out.rd.below B0.out) F.out.E).mono ?_);rintro e bS ⟨rfl,hb⟩;have B1 := mkA (below_step B0.out hb);clear hb) | (go_at_call 14;(with_reducible refine (implOk_callD k ke wi c1 s1 aa ab true (X_127.out.rd.below B1.out) F.out.O).mono ?_);rintro e bT ⟨rfl,hb⟩;have B2 := mkA (below_step B1.out hb);clear hb) | (go_at_call 16;(with_reducible refine (size_callD k (IntKind.i64.wrap (n2 + n3)) (X_127.out.rd.below B2.out).q F.out.N1).mono ?_);rintro e bU ⟨rfl,hb⟩;have B3 := mkA (below_step B2.out hb);clear hb) | (go_at_call 16;(with_reducible refine (size_callD k n2 (A_123.out.below B3.out).q F.out.N2).mono ?_);rintro e bV ⟨rfl,hb⟩;have B4 := mkA (below_step B3.out hb);clear hb) | (go_at_call 16;(with_reducible refine (size_callD k n3 (B_124.out.below B4.out).q F.out.N3).mono ?_);rintro e bW ⟨rfl,hb⟩;have B5 := mkA (below_step B4.out hb);clear hb) | (go_at_call 30;(with_reducible refine (esize_callD k ke wi c1 s1 aa ab m1 (X_127.out.rd.below B5.out) F.out.M1).mono ?_);rintro e bX ⟨rfl,hb⟩;have B6 := mkA (below_step B5.out hb);clear hb) | (go_at_call 30;(with_reducible refine (esize_callD k ke wi c s lo hi m2 (A_123.out.below B6.out) F.out.M2).mono ?_);rintro e bY ⟨rfl,hb⟩;have B7 := mkA (below_step B6.out hb);clear hb) | (go_at_call 30;(with_reducible refine (esize_callD k kb wb cb sb lob hib m3 (B_124.out.below B7.out) F.out.M3).mono ?_);rintro e bZ ⟨rfl,hb⟩;have B8 := mkA (below_step B7.out hb);clear hb))
 have HBe := mkA (below_step HB_132.out B8.out)
 go_wp2
 go_ret
 exact ⟨rfl,HBe.out⟩

theorem lawNo (k : Nat) (A : Option Addr) (cp : Nat) (l : List Int) (w : World) (u : Bd w ⟨A,l.length,cp⟩ l) (ke wi c s lo hi kb wb cb sb lob hib : Int) (li lb : List S70) (h r hb rb : List Int) (R Rb : List (List Int))
  (F : Aside0 (FeN k l ke wi c s lo hi li h r R kb wb cb sb lob hib lb hb rb Rb)) :
  Calls Try.prog 5 #[.slice A l.length cp] w fun e w' => e = .returned (.bool true) ∧ Below w.heap.size w w' := by
 have U0 := mkA u
 have aG := mkA (Below.refl w.heap.size w)
 clear u
 go_enter Try.func5,Try.ntmps5
 go_wp2_with fail
 refine (big_callD (U0.out.below aG.out) F.out.B).mono ?_
 rintro e w1 ⟨rfl,hb⟩
 have HB_1 := mkA (below_step aG.out hb)
 clear aG hb
 go_wp2_with fail
 refine (drawEE_callD k ke wi c s lo hi kb wb cb sb lob hib (U0.out.below HB_1.out) F.out.D).mono ?_
 rintro e w2 ⟨qa,xa,ya,za,qb,xb,yb,zb,rfl,hs,aJ,hb⟩
 have A_3 := mkA hs
 clear hs
 have B_4 := mkA aJ
 clear aJ
 have HB_5 := mkA (below_step HB_1.out hb)
 clear HB_1 hb
 have hal := mkA (below_alloc (Below.refl _ w2) (.cells #[vi ke,vi wi,.slice qa.A qa.n qa.c,vi c,vi s,vi lo,vi hi,.slice xa.A xa.n xa.c,.slice ya.A ya.n ya.c,.slice za.A za.n za.c] 34))
 have A_7 := mkA (A_3.out.below hal.out)
 have B_8 := mkA (B_4.out.below hal.out)
 have HB_9 := mkA (below_step HB_5.out hal.out)
 have ba_11 := mkA (Bx.new w2 34 #[vi ke,vi wi,.slice qa.A qa.n qa.c,vi c,vi s,vi lo,vi hi,.slice xa.A xa.n xa.c,.slice ya.A ya.n ya.c,.slice za.A za.n za.c])
 clear A_3 B_4 HB_5 hal
 have hal := mkA (below_alloc (Below.refl _ (w2.alloc (.cells #[vi ke,vi wi,.slice qa.A qa.n qa.c,vi c,vi s,vi lo,vi hi,.slice xa.A xa.n xa.c,.slice ya.A ya.n ya.c,.slice za.A za.n za.c] 34))) (.cells #[vi kb,vi wb,.slice qb.A qb.n qb.c,vi cb,vi sb,vi lob,vi hib,.slice xb.A xb.n xb.c,.slice yb.A yb.n yb.c,.slice zb.A zb.n zb.c] 34))
 have A_12 := mkA (A_7.out.below hal.out)
 have B_13 := mkA (B_8.out.below hal.out)
 have ba_14 := mkA (ba_11.out.below hal.out)
 have HB_15 := mkA (below_step HB_9.out hal.out)
 have bb_17 := mkA ((show Bx ((w2.alloc (.cells #[vi ke,vi wi,.slice qa.A qa.n qa.c,vi c,vi s,vi lo,vi hi,.slice xa.A xa.n xa.c,.slice ya.A ya.n ya.c,.slice za.A za.n za.c] 34)).alloc (.cells #[vi kb,vi wb,.slice qb.A qb.n qb.c,vi cb,vi sb,vi lob,vi hib,.slice xb.A xb.n xb.c,.slice yb.A yb.n yb.c,.slice zb.A zb.n zb.c] 34)) (w2.heap.size + 1) 34 #[vi kb,vi wb,.slice qb.A qb.n qb.c,vi cb,vi sb,vi lob,vi hib,.slice xb.A xb.n xb.c,.slice yb.A yb.n yb.c,.slice zb.A zb.n zb.c] from (show (w2.alloc (.cells #[vi ke,vi wi,.slice qa.A qa.n qa.c,vi c,vi s,vi lo,vi hi,.slice xa.A xa.n xa.c,.slice ya.A ya.n ya.c,.slice za.A za.n za.c] 34)).heap.size = w2.heap.size + 1 by simp) ▸ Bx.new (w2.alloc (.cells #[vi ke,vi wi,.slice qa.A qa.n qa.c,vi c,vi s,vi lo,vi hi,.slice xa.A xa.n xa.c,.slice ya.A ya.n ya.c,.slice za.A za.n za.c] 34)) 34 #[vi kb,vi wb,.slice qb.A qb.n qb.c,vi cb,vi sb,vi lob,vi hib,.slice xb.A xb.n xb.c,.slice yb.A yb.n yb.c,.slice zb.A zb.n zb.c]))
 clear A_7 B_8 ba_11 HB_9 hal
 obtain ⟨ba17c0,ba17c1,ba17c2,ba17c3,ba17c4,ba17c5,ba17c6,ba17c7,ba17c8,ba17c9⟩ := ba_14.out.cells10
 obtain ⟨bb18c0,bb18c1,bb18c2,bb18c3,bb18c4,bb18c5,bb18c6,bb18c7,bb18c8,bb18c9⟩ := bb_17.out.cells10
 go_wp2_with fail
 clear ba17c0 ba17c1 ba17c2 ba17c3 ba17c4 ba17c5 ba17c6 ba17c7 ba17c8 ba17c9 bb18c0 bb18c1 bb18c2 bb18c3 bb18c4 bb18c5 bb18c6 bb18c7 bb18c8 bb18c9
 refine (implA_callD k ke wi c s lo hi kb wb cb sb lob hib 0 0 0 0 0 0 [] [] [] [] false A_12.out B_13.out F.out.I).mono ?_
 rintro e w3 ⟨q1,x1,y1,z1,a1,b1,rfl,hs,hm,hb⟩
 have X_20 := mkA hs
 clear hs
 clear hm
 have A_22 := mkA (A_12.out.below hb)
 have B_23 := mkA (B_13.out.below hb)
 have ba_24 := mkA (ba_14.out.below hb)
 have bb_25 := mkA (bb_17.out.below hb)
 have HB_26 := mkA (below_step HB_15.out hb)
 clear A_12 B_13 ba_14 bb_17 HB_15 hb
 have hal := mkA (below_alloc (Below.refl _ w3) (.cells #[vi 0,vi 0,.slice q1.A q1.n q1.c,vi 0,vi 0,vi 0,vi 0,.slice x1.A x1.n x1.c,.slice y1.A y1.n y1.c,.slice z1.A z1.n z1.c] 34))
 have A_28 := mkA (A_22.out.below hal.out)
 have B_29 := mkA (B_23.out.below hal.out)
 have ba_30 := mkA (ba_24.out.below hal.out)
 have bb_31 := mkA (bb_25.out.below hal.out)
 have X_32 := mkA (X_20.out.below hal.out)
 have HB_33 := mkA (below_step HB_26.out hal.out)
 have bx_35 := mkA (Bx.new w3 34 #[vi 0,vi 0,.slice q1.A q1.n q1.c,vi 0,vi 0,vi 0,vi 0,.slice x1.A x1.n x1.c,.slice y1.A y1.n y1.c,.slice z1.A z1.n z1.c])
 clear A_22 B_23 ba_24 bb_25 X_20 HB_26 hal
 obtain ⟨bb35c0,bb35c1,bb35c2,bb35c3,bb35c4,bb35c5,bb35c6,bb35c7,bb35c8,bb35c9⟩ := bb_31.out.cells10
 obtain ⟨ba36c0,ba36c1,ba36c2,ba36c3,ba36c4,ba36c5,ba36c6,ba36c7,ba36c8,ba36c9⟩ := ba_30.out.cells10
 go_wp2_with fail
 clear bb35c0 bb35c1 bb35c2 bb35c3 bb35c4 bb35c5 bb35c6 bb35c7 bb35c8 bb35c9 ba36c0 ba36c1 ba36c2 ba36c3 ba36c4 ba36c5 ba36c6 ba36c7 ba36c8 ba36c9
 refine (implA_callD k kb wb cb sb lob hib ke wi c s lo hi 0 0 0 0 0 0 [] [] [] [] false B_29.out A_28.out F.out.J).mono ?_
 rintro e w4 ⟨q2,x2,y2,z2,a2,b2,rfl,hs,hm,hb⟩
 have Y_38 := mkA hs
 clear hs
 clear hm
 have A_40 := mkA (A_28.out.below hb)
 have B_41 := mkA (B_29.out.below hb)
 have ba_42 := mkA (ba_30.out.below hb)
 have bb_43 := mkA (bb_31.out.below hb)
 have X_44 := mkA (X_32.out.below hb)
 have bx_45 := mkA (bx_35.out.below hb)
 have HB_46 := mkA (below_step HB_33.out hb)
 clear A_28 B_29 ba_30 bb_31 X_32 bx_35 HB_33 hb
 have hal := mkA (below_alloc (Below.refl _ w4) (.cells #[vi 0,vi 0,.slice q2.A q2.n q2.c,vi 0,vi 0,vi 0,vi 0,.slice x2.A x2.n x2.c,.slice y2.A y2.n y2.c,.slice z2.A z2.n z2.c] 34))
 have A_48 := mkA (A_40.out.below hal.out)
 have B_49 := mkA (B_41.out.below hal.out)
 have ba_50 := mkA (ba_42.out.below hal.out)
 have bb_51 := mkA (bb_43.out.below hal.out)
 have X_52 := mkA (X_44.out.below hal.out)
 have bx_53 := mkA (bx_45.out.below hal.out)
 have Y_54 := mkA (Y_38.out.below hal.out)
 have HB_55 := mkA (below_step HB_46.out hal.out)
 have by_57 := mkA (Bx.new w4 34 #[vi 0,vi 0,.slice q2.A q2.n q2.c,vi 0,vi 0,vi 0,vi 0,.slice x2.A x2.n x2.c,.slice y2.A y2.n y2.c,.slice z2.A z2.n z2.c])
 clear A_40 B_41 ba_42 bb_43 X_44 bx_45 Y_38 HB_46 hal
 obtain ⟨ba57c0,ba57c1,ba57c2,ba57c3,ba57c4,ba57c5,ba57c6,ba57c7,ba57c8,ba57c9⟩ := ba_50.out.cells10
 obtain ⟨bb58c0,bb58c1,bb58c2,bb58c3,bb58c4,bb58c5,bb58c6,bb58c7,bb58c8,bb58c9⟩ := bb_51.out.cells10
 go_wp2_with fail
 clear ba57c0 ba57c1 ba57c2 ba57c3 ba57c4 ba57c5 ba57c6 ba57c7 ba57c8 ba57c9 bb58c0 bb58c1 bb58c2 bb58c3 bb58c4 bb58c5 bb58c6 bb58c7 bb58c8 bb58c9
 refine (specA_callD k ke wi c s lo hi kb wb cb sb lob hib 0 0 0 0 0 0 [] [] [] [] false A_48.out B_49.out F.out.S).mono ?_
 rintro e w5 ⟨q3,x3,y3,z3,a3,b3,rfl,hs,hm,hb⟩
 have W_60 := mkA hs
 clear hs
 clear hm
 have A_62 := mkA (A_48.out.below hb)
 have B_63 := mkA (B_49.out.below hb)
 have ba_64 := mkA (ba_50.out.below hb)
 have bb_65 := mkA (bb_51.out.below hb)
 have X_66 := mkA (X_52.out.below hb)
 have bx_67 := mkA (bx_53.out.below hb)
 have Y_68 := mkA (Y_54.out.below hb)
 have by_69 := mkA (by_57.out.below hb)
 have HB_70 := mkA (below_step HB_55.out hb)
 clear A_48 B_49 ba_50 bb_51 X_52 bx_53 Y_54 by_57 HB_55 hb
 have hal := mkA (below_alloc (Below.refl _ w5) (.cells #[vi 0,vi 0,.slice q3.A q3.n q3.c,vi 0,vi 0,vi 0,vi 0,.slice x3.A x3.n x3.c,.slice y3.A y3.n y3.c,.slice z3.A z3.n z3.c] 34))
 have A_72 := mkA (A_62.out.below hal.out)
 have B_73 := mkA (B_63.out.below hal.out)
 have ba_74 := mkA (ba_64.out.below hal.out)
 have bb_75 := mkA (bb_65.out.below hal.out)
 have X_76 := mkA (X_66.out.below hal.out)
 have bx_77 := mkA (bx_67.out.below hal.out)
 have Y_78 := mkA (Y_68.out.below hal.out)
 have by_79 := mkA (by_69.out.below hal.out)
 have W_80 := mkA (W_60.out.below hal.out)
 have HB_81 := mkA (below_step HB_70.out hal.out)
 have bw_83 := mkA (Bx.new w5 34 #[vi 0,vi 0,.slice q3.A q3.n q3.c,vi 0,vi 0,vi 0,vi 0,.slice x3.A x3.n x3.c,.slice y3.A y3.n y3.c,.slice z3.A z3.n z3.c])
 clear A_62 B_63 ba_64 bb_65 X_66 bx_67 Y_68 by_69 W_60 HB_70 hal
 clear W_80 bw_83
 go_upto_region 9 with (fail)
 have b_ : q1.n = 0 := X_76.out.rd.q.e
 obtain ⟨bx83c0,bx83c1,bx83c2,bx83c3,bx83c4,bx83c5,bx83c6,bx83c7,bx83c8,bx83c9⟩ := bx_77.out.cells10
 go_wp2
 go_ret
 exact ⟨rfl,HB_81.out⟩

theorem lawBig (A : Option Addr) (cp : Nat) (l : List Int) (w : World) (u : Bd w ⟨A,l.length,cp⟩ l) (BG : laws_big.f l = some true) :
  Calls Try.prog 5 #[.slice A l.length cp] w fun e w' => e = .returned (.bool true) ∧ Below w.heap.size w w' := by
 have U0 := mkA u
 have aG := mkA (Below.refl w.heap.size w)
 clear u
 go_enter Try.func5,Try.ntmps5
 go_wp2_with fail
 refine (big_callD (U0.out.below aG.out) BG).mono ?_
 rintro e w1 ⟨rfl,hb⟩
 have HB_1 := mkA (below_step aG.out hb)
 clear aG hb
 go_wp2
 go_ret
 exact ⟨rfl,HB_1.out⟩


end Go.Proofs.Ytdciagkholijlaa.PFnEntries
