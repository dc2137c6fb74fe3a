/- An item is an entry of its own number alone; numbers of two agents are unlike; the law is walked by hand. -/
import Derived.Test.YtdciagkholijlaaPFnItemsx1
import Derived.Test.YtdciagkholijlaaPFnItemsx10
import Derived.Test.YtdciagkholijlaaPFnItemsx11
import Derived.Test.YtdciagkholijlaaPFnItemsx12
import Derived.Test.YtdciagkholijlaaPFnItemsx7
import Derived.Test.YtdciagkholijlaaPFnItemsx9
import Derived.Test.YtdciagkholijlaaAid
import Derived.WalkKit
import Derived.Deep.RegionHeld3
import Derived.Shelf.Spec.TrailingZeros
namespace Go.Proofs.Ytdciagkholijlaa.PFnItems
open Go.RowKit Go.Proofs.Ytdciagkholijlaa.PFnItems Go.Proofs.YtdciagkholijlaaW.PrintWords Go.Proofs.YtdciagkholijlaaW.PrintLast Go.Proofs.YtdciagkholijlaaW.PrintMore Go.Proofs.Ytdciagkholijlaa.Aid
set_option linter.unusedVariables false
set_option linter.unusedSimpArgs false

theorem Bx.cells10 {w : World} {g t : Nat} {v0 v1 v2 v3 v4 v5 v6 v7 v8 v9 : Value} (hb : Bx w g t #[v0, v1, v2, v3, v4, v5, v6, v7, v8, v9]) : w.cell? ⟨g, 0, none⟩ = some v0 ∧ w.cell? ⟨g, 1, none⟩ = some v1 ∧ w.cell? ⟨g, 2, none⟩ = some v2 ∧ w.cell? ⟨g, 3, none⟩ = some v3 ∧ w.cell? ⟨g, 4, none⟩ = some v4 ∧ w.cell? ⟨g, 5, none⟩ = some v5 ∧ w.cell? ⟨g, 6, none⟩ = some v6 ∧ w.cell? ⟨g, 7, none⟩ = some v7 ∧ w.cell? ⟨g, 8, none⟩ = some v8 ∧ w.cell? ⟨g, 9, none⟩ = some v9 := ⟨blk_cell hb 0, blk_cell hb 1, blk_cell hb 2, blk_cell hb 3, blk_cell hb 4, blk_cell hb 5, blk_cell hb 6, blk_cell hb 7, blk_cell hb 8, blk_cell hb 9⟩
structure Qd (w : World) (q : Sl) (l : List S70) : Prop where
  e : q.n = l.length
  le : l.length ≤ q.c
  C : k70.C w q.A l.length l
def Ek (w : World) (a b : Nat) (q x y z : Sl) (l : List S70) (h r : List Int) (R : List (List Int)) : Prop :=
  Kd.R k70 70 w a (fun k => k < b) (.slice q.A q.n q.c) l ∧ Sk w a b x y z h r R
structure Ed (w : World) (q x y z : Sl) (l : List S70) (h r : List Int) (R : List (List Int)) : Prop where
  q : Qd w q l
  s : Rd w x y z h r R
section
variable {w w1 w' : World} {a b a' b' : Nat} {q x y z : Sl} {l : List S70} {h r : List Int} {R : List (List Int)}
theorem Ek.below (s : Ek w a b q x y z l h r R) (hb : Below w.heap.size w w1) : Ek w1 a b q x y z l h r R := ⟨Kd.R_below s.1 hb, s.2.below hb⟩
theorem Ek.kp (s : Ek w a' b' q x y z l h r R) (k : Kp w w1 a b) (ha : b ≤ a' ∨ b' ≤ a) : Ek w1 a' b' q x y z l h r R :=
  ⟨Kd.R_mono (Kd.R_move (Kd.R_bound s.1) (fun i hi => k.kept.2 i hi.2.2.1 (fun hs => by have := hi.1; have := hi.2.1; omega))) (fun _ hk => hk.1), s.2.kp k ha⟩
theorem Ed.below (s : Ed w q x y z l h r R) (hb : Below w.heap.size w w1) : Ed w1 q x y z l h r R := ⟨⟨s.q.e, s.q.le, Kd.C_below s.q.C hb⟩, s.s.below hb⟩
theorem Ek.rd (s : Ek w a b q x y z l h r R) : Ed w q x y z l h r R := by
  obtain ⟨h1, h2, h3⟩ := Kd.R_reads' s.1
  exact ⟨⟨h1, by omega, h3⟩, s.2.rd⟩
theorem Ek.of {base : Nat} {ok2 ok4 ok5 ok6 : Nat → Prop} {v2 v4 v5 v6 : Value} (h2 : Kd.R k70 70 w' base ok2 v2 l) (h4 : Kd.R (Kd.int .i64) 3 w' base ok4 v4 h) (h5 : Kd.R (Kd.int .i64) 3 w' base ok5 v5 r) (h6 : Kd.S (Kd.slice 3 (Kd.int .i64)) 24 w' base ok6 v6 R) (hok5 : ∀ k, ok5 k → some k ≠ v4.ownBlock) (hok6 : ∀ k, ok6 k → some k ≠ v4.ownBlock ∧ some k ≠ v5.ownBlock) :
    ∃ q x y z : Sl, v2 = .slice q.A q.n q.c ∧ v4 = .slice x.A x.n x.c ∧ v5 = .slice y.A y.n y.c ∧ v6 = .slice z.A z.n z.c ∧ Ek w' base w'.heap.size q x y z l h r R := by
  obtain ⟨A2, c2, rfl⟩ := Kd.R_slice h2
  obtain ⟨x, y, z, e4, e5, e6, hs⟩ := Sk.of h4 h5 h6 hok5 hok6
  exact ⟨⟨A2, _, c2⟩, x, y, z, rfl, e4, e5, e6, Kd.R_mono (Kd.R_bound h2) (fun _ hk => hk.2.2.1), hs⟩
end
theorem specE_callD (k : Nat) {w : World} {x y z : Sl} {h r : List Int} {R : List (List Int)} (ag sq cl ke wi c s lo hi e1 e2 c1 s1 lo1 hi1 : Int) (l1 : List S70) (h1 r1 : List Int) (R1 : List (List Int)) (t : Bool) (u : Rd w x y z h r R) (he : spec_EntryOf.f k ag sq cl ke wi c s lo hi h r R = some (e1, e2, l1, c1, s1, lo1, hi1, h1, r1, R1, t)) :
    Calls Try.prog 10 #[.int .i64 ag, .agg #[.int .i64 sq, .int .i64 cl, .int .i64 ke, .int .i64 wi, .int .i64 c, .int .i64 s, .int .i64 lo, .int .i64 hi, .slice x.A x.n x.c, .slice y.A y.n y.c, .slice z.A z.n z.c]] w fun e w' => ∃ (q' x' y' z' : Sl) (a b : Nat), e = .returned (.tuple #[.agg #[.int .i64 e1, .int .i64 e2, .slice q'.A q'.n q'.c, .int .i64 c1, .int .i64 s1, .int .i64 lo1, .int .i64 hi1, .slice x'.A x'.n x'.c, .slice y'.A y'.n y'.c, .slice z'.A z'.n z'.c], .bool t]) ∧ Ek w' a b q' x' y' z' l1 h1 r1 R1 ∧ Made w w' a b ∧ Below w.heap.size w w' := by
  rw [u.e4, u.e5, u.e6]
  refine (spec_EntryOf.calls k ag sq cl ke wi c s lo hi _ _ h _ _ r _ _ R e1 e2 l1 c1 s1 lo1 hi1 h1 r1 R1 t w u.C4 u.l4 u.C5 u.l5 u.C6 u.l6 he).mono ?_
  rintro e w' ⟨v2, v4, v5, v6, rfl, h2, h4, h5, h6, hb⟩
  obtain ⟨q', x', y', z', rfl, rfl, rfl, rfl, hs⟩ := Ek.of h2 h4 h5 h6 (fun _ hk => hk) (fun _ hk => hk)
  exact ⟨q', x', y', z', _, _, rfl, hs, ⟨Nat.le_refl _, hb.size, Nat.le_refl _⟩, hb⟩

theorem implE_callD (k : Nat) {w : World} {x y z : Sl} {h r : List Int} {R : List (List Int)} (ag sq cl ke wi c s lo hi e1 e2 c1 s1 lo1 hi1 : Int) (l1 : List S70) (h1 r1 : List Int) (R1 : List (List Int)) (t : Bool) (u : Rd w x y z h r R) (he : impl_EntryOf.f k ag sq cl ke wi c s lo hi h r R = some (e1, e2, l1, c1, s1, lo1, hi1, h1, r1, R1, t)) :
    Calls Try.prog 9 #[.int .i64 ag, .agg #[.int .i64 sq, .int .i64 cl, .int .i64 ke, .int .i64 wi, .int .i64 c, .int .i64 s, .int .i64 lo, .int .i64 hi, .slice x.A x.n x.c, .slice y.A y.n y.c, .slice z.A z.n z.c]] w fun e w' => ∃ (q' x' y' z' : Sl) (a b : Nat), e = .returned (.tuple #[.agg #[.int .i64 e1, .int .i64 e2, .slice q'.A q'.n q'.c, .int .i64 c1, .int .i64 s1, .int .i64 lo1, .int .i64 hi1, .slice x'.A x'.n x'.c, .slice y'.A y'.n y'.c, .slice z'.A z'.n z'.c], .bool t]) ∧ Ek w' a b q' x' y' z' l1 h1 r1 R1 ∧ Made w w' a b ∧ Below w.heap.size w w' := by
  rw [u.e4, u.e5, u.e6]
  refine (impl_EntryOf.calls k ag sq cl ke wi c s lo hi _ _ h _ _ r _ _ R e1 e2 l1 c1 s1 lo1 hi1 h1 r1 R1 t w u.C4 u.l4 u.C5 u.l5 u.C6 u.l6 he).mono ?_
  rintro e w' ⟨v2, v4, v5, v6, rfl, h2, h4, h5, h6, hb⟩
  obtain ⟨q', x', y', z', rfl, rfl, rfl, rfl, hs⟩ := Ek.of h2 h4 h5 h6 (fun _ hk => hk) (fun _ hk => hk)
  exact ⟨q', x', y', z', _, _, rfl, hs, ⟨Nat.le_refl _, hb.size, Nat.le_refl _⟩, hb⟩
theorem big_callD {w : World} {v : Sl} {l : List Int} {t : Bool} (u : Bd w v l) (he : laws_big.f l = some t) :
    Calls Try.prog 7 #[.slice v.A v.n v.c] w fun e w' => e = .returned (.bool t) ∧ Below w.heap.size w w' := by
  rw [u.e]
  refine (laws_big.calls _ _ _ t w u.C u.le he).mono ?_
  rintro e w' ⟨rfl, hb⟩
  exact ⟨rfl, hb.below⟩
theorem drawI_callD (k : Nat) {w : World} {v : Sl} {l : List Int} (ag sq cl ke wi c s lo hi : Int) (h r : List Int) (R : List (List Int)) (u : Bd w v l) (he : spec_DrawEntryOf.f k l = some (ag, sq, cl, ke, wi, c, s, lo, hi, h, r, R)) :
    Calls Try.prog 8 #[.slice v.A v.n v.c] w fun e w' => ∃ (x y z : Sl), e = .returned (.tuple #[.int .i64 ag, .agg #[.int .i64 sq, .int .i64 cl, .int .i64 ke, .int .i64 wi, .int .i64 c, .int .i64 s, .int .i64 lo, .int .i64 hi, .slice x.A x.n x.c, .slice y.A y.n y.c, .slice z.A z.n z.c]]) ∧ Rd w' x y z h r R ∧ Below w.heap.size w w' := by
  rw [u.e]
  refine (spec_DrawEntryOf.calls k _ _ l ag sq cl ke wi c s lo hi h r R w u.C u.le he).mono ?_
  rintro e w' ⟨v4, v5, v6, rfl, h4, h5, h6, hb⟩
  obtain ⟨x, y, z, rfl, rfl, rfl, hs⟩ := Sk.of h4 h5 h6 (fun _ hk => hk) (fun _ hk => hk)
  exact ⟨x, y, z, rfl, hs.rd, hb⟩
theorem drawN_callD (k : Nat) {w : World} {v : Sl} {l : List Int} (a b : Int) (u : Bd w v l) (he : spec_DrawIdOf.f k l = some (a, b)) :
    Calls Try.prog 11 #[.slice v.A v.n v.c] w fun e w' => e = .returned (.tuple #[.int .i64 a, .int .i64 b]) ∧ Below w.heap.size w w' := by
  rw [u.e]
  exact spec_DrawIdOf.calls k _ _ l a b w u.C u.le he
theorem implId_callD {w : World} (a b r : Int) (he : impl_IdOf.f a b = some r) :
    Calls Try.prog 12 #[.int .i64 a, .int .i64 b] w fun e w' => e = .returned (.int .i64 r) ∧ Below w.heap.size w w' :=
  (impl_IdOf.calls a b r w he).mono (fun _ _ h => ⟨h.1, h.2.below⟩)
theorem specId_callD {w : World} (a b r : Int) (he : spec_IdOf.f a b = some r) :
    Calls Try.prog 13 #[.int .i64 a, .int .i64 b] w fun e w' => e = .returned (.int .i64 r) ∧ Below w.heap.size w w' :=
  (spec_IdOf.calls a b r w he).mono (fun _ _ h => ⟨h.1, h.2.below⟩)
theorem enOk_callD (k : Nat) {w : World} {q x y z : Sl} {l : List S70} {h r : List Int} {R : List (List Int)} (ke wi c s lo hi : Int) (t : Bool) (u : Ed w q x y z l h r R) (he : impl_EntryOk.f k ke wi l c s lo hi h r R = some t) :
    Calls Try.prog 14 #[.agg #[.int .i64 ke, .int .i64 wi, .slice q.A q.n q.c, .int .i64 c, .int .i64 s, .int .i64 lo, .int .i64 hi, .slice x.A x.n x.c, .slice y.A y.n y.c, .slice z.A z.n z.c]] w fun e w' => e = .returned (.bool t) ∧ Below w.heap.size w w' := by
  rw [u.q.e, u.s.e4, u.s.e5, u.s.e6]
  exact impl_EntryOk.calls k ke wi _ _ l c s lo hi _ _ h _ _ r _ _ R t w u.q.C u.q.le u.s.C4 u.s.l4 u.s.C5 u.s.l5 u.s.C6 u.s.l6 he
theorem itOk_callD (k : Nat) {w : World} {x y z : Sl} {h r : List Int} {R : List (List Int)} (sq cl ke wi c s lo hi : Int) (t : Bool) (u : Rd w x y z h r R) (he : impl_ItemOk.f k sq cl ke wi c s lo hi h r R = some t) :
    Calls Try.prog 15 #[.agg #[.int .i64 sq, .int .i64 cl, .int .i64 ke, .int .i64 wi, .int .i64 c, .int .i64 s, .int .i64 lo, .int .i64 hi, .slice x.A x.n x.c, .slice y.A y.n y.c, .slice z.A z.n z.c]] w fun e w' => e = .returned (.bool t) ∧ Below w.heap.size w w' := by
  rw [u.e4, u.e5, u.e6]
  exact impl_ItemOk.calls k sq cl ke wi c s lo hi _ _ h _ _ r _ _ R t w u.C4 u.l4 u.C5 u.l5 u.C6 u.l6 he
theorem size_callD (k : Nat) {w : World} {q : Sl} {l : List S70} (t : Int) (u : Qd w q l) (he : impl_SetSize.f k l = some t) :
    Calls Try.prog 16 #[.slice q.A q.n q.c] w fun e w' => e = .returned (.int .i64 t) ∧ Below w.heap.size w w' := by
  rw [u.e]
  exact impl_SetSize.calls k _ _ l t w u.C u.le he
theorem has_callD {w : World} {q : Sl} {l : List S70} (n : Int) (t : Bool) (u : Qd w q l) (he : impl_SetHas.f l n = some t) :
    Calls Try.prog 17 #[.slice q.A q.n q.c, .int .i64 n] w fun e w' => e = .returned (.bool t) ∧ Below w.heap.size w w' := by
  rw [u.e]
  exact impl_SetHas.calls _ _ l n t w u.C u.le he
theorem same_callD (k : Nat) {w : World} {x y z x' y' z' : Sl} {h r h' r' : List Int} {R R' : List (List Int)} (c s lo hi c' s' lo' hi' : Int) (t : Bool) (u : Rd w x y z h r R) (u' : Rd w x' y' z' h' r' R') (he : impl_SketchSame.f k c s lo hi h r R c' s' lo' hi' h' r' R' = some t) :
    Calls Try.prog 18 #[.agg #[.int .i64 c, .int .i64 s, .int .i64 lo, .int .i64 hi, .slice x.A x.n x.c, .slice y.A y.n y.c, .slice z.A z.n z.c], .agg #[.int .i64 c', .int .i64 s', .int .i64 lo', .int .i64 hi', .slice x'.A x'.n x'.c, .slice y'.A y'.n y'.c, .slice z'.A z'.n z'.c]] w fun e w' => e = .returned (.bool t) ∧ Below w.heap.size w w' := by
  rw [u.e4, u.e5, u.e6, u'.e4, u'.e5, u'.e6]
  exact impl_SketchSame.calls k c s lo hi _ _ h _ _ r _ _ R c' s' lo' hi' _ _ h' _ _ r' _ _ R' t w u.C4 u.l4 u.C5 u.l5 u.C6 u.l6 u'.C4 u'.l4 u'.C5 u'.l5 u'.C6 u'.l6 he
structure Fi (k : Nat) (l : List Int) (ag sq cl ke wi c s lo hi : Int) (h r : List Int) (R : List (List Int)) (e1 e2 : Int) (l1 : List S70) (c1 s1 lo1 hi1 : Int) (h1 r1 : List Int) (R1 : List (List Int)) (t : Bool) (a b id : Int) : Prop where
  B : laws_big.f l = some false
  D : spec_DrawEntryOf.f k l = some (ag, sq, cl, ke, wi, c, s, lo, hi, h, r, R)
  I : impl_EntryOf.f k ag sq cl ke wi c s lo hi h r R = some (e1, e2, l1, c1, s1, lo1, hi1, h1, r1, R1, t)
  S : spec_EntryOf.f k ag sq cl ke wi c s lo hi h r R = some (e1, e2, l1, c1, s1, lo1, hi1, h1, r1, R1, t)
  N : spec_DrawIdOf.f k l = some (a, b)
  A : impl_IdOf.f a b = some id
  C : spec_IdOf.f a b = some id
structure Gi (k : Nat) (ag sq cl ke wi c s lo hi : Int) (h r : List Int) (R : List (List Int)) (l1 : List S70) (d : Int) : Prop where
  E : impl_EntryOk.f k ke wi l1 c s lo hi h r R = some true
  O : impl_ItemOk.f k sq cl ke wi c s lo hi h r R = some true
  Z : impl_SetSize.f k l1 = some 1
  A : impl_IdOf.f ag sq = some d
  H : impl_SetHas.f l1 d = some true
  M : impl_SketchSame.f k c s lo hi h r R c s lo hi h r R = some true
def NumOk (a b id : Int) : Prop := id < 0 ∨ (0 ≤ id ∧ (id / 100 != a) = false ∧ (id % 100 != b) = false ∧ wrap64 (Int.tdiv id 100) = a ∧ wrap64 (Int.tmod id 100) = b)
end Go.Proofs.Ytdciagkholijlaa.PFnItems
namespace Go.Proofs.Ytdciagkholijlaa.HFnItems
open Go.RowKit Go.Proofs.Ytdciagkholijlaa.PFnItems Go.Proofs.YtdciagkholijlaaW.PrintWords Go.Proofs.YtdciagkholijlaaW.PrintLast Go.Proofs.YtdciagkholijlaaW.PrintMore Go.Proofs.Ytdciagkholijlaa.Aid
set_option linter.unusedVariables false
set_option linter.unusedSimpArgs false

theorem rdR_get {xs : List (List Int)} {n : Nat} (h : n < xs.length) : rd_L2 xs (n : Int) = xs[n] := by
  unfold rd_L2
  rw [Int.toNat_natCast, List.getD_eq_getElem?_getD, List.getElem?_eq_getElem h]
  rfl
theorem and255 (x : Int) : 0 ≤ Go.bits .and .i64 x 255 ∧ Go.bits .and .i64 x 255 ≤ 255 := by
  have h : (BitVec.ofInt 64 x).toNat &&& 255 ≤ 255 := Nat.and_le_right
  have e : Go.bits .and .i64 x 255 = (((BitVec.ofInt 64 x).toNat &&& 255 : Nat) : Int) :=
    wraps_i64 _ (Int.natCast_nonneg _) (Int.lt_of_le_of_lt (Int.ofNat_le.mpr h) (by decide))
  rw [e]
  omega
theorem l1Byte_is (l : List Int) (hl : l.length ≤ 281474976702464) (p : Nat) (hp : p ≤ l.length) (r : Int) : ∃ (v q : Nat) (s : Int), spec_l1Byte.f l p r = some ((v : Int), (q : Int), s) ∧ v ≤ 255 ∧ q ≤ l.length := by
  unfold spec_l1Byte.f
  by_cases h : (p : Int) < (l.length : Int)
  · rw [if_pos h, if_pos (by omega)]
    obtain ⟨h0, h1⟩ := and255 (wrap64 ((Go.bits .and .i64 (Go.bits .xor .i64 ((wrap64 ((wrap64 (r * 6364136223846793005)) + 1442695040888963407)) / 8589934592) ((wrap64 ((wrap64 (r * 6364136223846793005)) + 1442695040888963407)) / 35184372088832)) 255) + (wrap64 (rd l p))));obtain ⟨v, hv⟩ := Int.eq_ofNat_of_zero_le h0;rw [hv] at h1 ⊢;exact ⟨v, p + 1, _, by rw [wsucc (by omega)], by omega, by omega⟩
  · rw [if_neg h]
    obtain ⟨h0, h1⟩ := and255 (Go.bits .xor .i64 ((wrap64 ((wrap64 (r * 6364136223846793005)) + 1442695040888963407)) / 8589934592) ((wrap64 ((wrap64 (r * 6364136223846793005)) + 1442695040888963407)) / 35184372088832));obtain ⟨v, hv⟩ := Int.eq_ofNat_of_zero_le h0;rw [hv] at h1 ⊢;exact ⟨v, p, _, rfl, by omega, hp⟩
theorem l1Below_is (l : List Int) (hl : l.length ≤ 281474976702464) (p : Nat) (hp : p ≤ l.length) (r : Int) (n : Nat) (h0 : 0 < n) (h1 : n ≤ 256) :
    ∃ (v q : Nat) (s : Int), spec_l1Below.f l p r (n : Int) = some ((v : Int), (q : Int), s) ∧ v < n ∧ q ≤ l.length := by
  obtain ⟨v, q, s, e, hv, hq⟩ := l1Byte_is l hl p hp r
  refine ⟨v % n, q, s, ?_, Nat.mod_lt _ h0, hq⟩
  unfold spec_l1Below.f
  rw [if_neg (by omega), if_pos (by omega), e]
  simp only [Option.bind_some]
  rw [if_neg (by omega), Int.tmod_eq_emod_of_nonneg (by omega)]
  rfl
theorem l1New_at (l : List Int) (d : Nat) : ∀ (i : Nat) (x : Int), i + d = l.length → ∃ s, Ev (fun k => spec_l1New.l0 k l x (i : Int)) (l, 0, s) := by
  induction d with
  | zero =>
    intro i x hi;refine ⟨x, Ev.step (fun _ => rfl) ?_⟩;simp only [spec_l1New.l0];exact ev_neg (by omega) (ev_some rfl)
  | succ d ih =>
    intro i x hi
    by_cases h4 : i < 4000
    · obtain ⟨s, hs⟩ := ih (i + 1) (Go.bits .and .i64 (wrap64 ((wrap64 ((wrap64 (x * 131)) + (wrap64 (rd l i)))) + 7)) 1073741823) (by omega)
      refine ⟨s, Ev.step (fun _ => rfl) ?_⟩;simp only [spec_l1New.l0];refine ev_pos (by omega) (ev_pos (by omega) (ev_pos (by omega) ?_));rw [wsucc (by omega)];exact hs
    · refine ⟨x, Ev.step (fun _ => rfl) ?_⟩
      simp only [spec_l1New.l0];exact ev_pos (by omega) (ev_neg (by omega) (ev_some rfl))
theorem l1New_ev (l : List Int) : ∃ s, Ev (fun k => spec_l1New.f k l) (l, 0, s) := l1New_at l l.length 0 _ (by omega)
theorem within_is (a b c : Int) : impl_within.f a b c = some (decide (b ≤ a ∧ a ≤ c)) := in_is a b c
theorem l1In_is (a b c : Int) : spec_l1In.f a b c = some (decide (b ≤ a ∧ a ≤ c)) := in_is a b c
def LiOk (xs : List Int) (n : Nat) (most : Int) (zero : Prop) : Prop := xs.length = n ∧ ∀ x ∈ xs, (0 ≤ x ∧ x ≤ most) ∧ (zero → x = 0)
def SkOk (c s mn mx : Int) (h r : List Int) (R : List (List Int)) : Prop :=
  (0 ≤ c ∧ c ≤ 1000000000) ∧ (0 ≤ s ∧ s ≤ 1000000000) ∧ (0 ≤ mn ∧ mn ≤ 1000000) ∧ (0 ≤ mx ∧ mx ≤ 1000000) ∧ mn ≤ mx ∧ R.length = 2 ∧ (c = 0 → s = 0 ∧ mx = 0) ∧
  LiOk h 8 1000000000 (c = 0) ∧ LiOk r 8 17 (c = 0) ∧ LiOk (rd_L2 R 0) 4 1000000000 (c = 0) ∧ LiOk (rd_L2 R 1) 4 1000000000 (c = 0)
noncomputable def skOk (c s mn mx : Int) (h r : List Int) (R : List (List Int)) : Bool := @decide (SkOk c s mn mx h r R) (Classical.propDecidable _)
theorem skOk_true {c s mn mx : Int} {h r : List Int} {R : List (List Int)} : skOk c s mn mx h r R = true ↔ SkOk c s mn mx h r R := by
  unfold skOk
  exact @decide_eq_true_iff _ (Classical.propDecidable _)
theorem skOk_false {c s mn mx : Int} {h r : List Int} {R : List (List Int)} (hn : ¬ SkOk c s mn mx h r R) : skOk c s mn mx h r R = false := by
  cases e : skOk c s mn mx h r R with
  | false => rfl
  | true => exact absurd (skOk_true.1 e) hn
theorem l3List_at (xs : List Int) (n : Nat) (most : Int) (z : Bool) (hn : n ≤ 8) (hl : xs.length = n) (r : Bool) (d : Nat) : ∀ i : Nat, i + d = n →
    ((∀ x ∈ xs.drop i, (0 ≤ x ∧ x ≤ most) ∧ (z = true → x = 0)) → r = true) → (¬ (∀ x ∈ xs.drop i, (0 ≤ x ∧ x ≤ most) ∧ (z = true → x = 0)) → r = false) →
    Ev (fun k => spec_l3List.l0 k xs (n : Int) most z (i : Int)) r := by
  induction d with
  | zero =>
    intro i hi h1 _;refine Ev.step (fun _ => rfl) ?_;simp only [spec_l3List.l0];refine ev_neg (by omega) (ev_some ?_);rw [h1];intro x hx;rw [List.drop_of_length_le (by omega)] at hx
    cases hx
  | succ d ih =>
    intro i hi h1 h2
    have hg : i < xs.length := by omega
    rw [List.drop_eq_getElem_cons hg] at h1 h2;refine Ev.step (fun _ => rfl) ?_;simp only [spec_l3List.l0];rw [wsucc (by omega), rd_get hg];refine ev_pos (by omega) (ev_pos (by omega) (ev_pos (by omega) (ev_bind0 (l1In_is _ _ _) ?_)))
    by_cases c : 0 ≤ xs[i] ∧ xs[i] ≤ most
    · refine ev_pos (decide_eq_true c) ?_
      have hrec : (z = true → xs[i] = 0) → Ev (fun k => spec_l3List.l0 k xs (n : Int) most z ((i + 1 : Nat) : Int)) r := by
        intro hz;refine ih (i + 1) (by omega) (fun h => h1 fun x hx => ?_) (fun h => h2 fun g => h fun x hx => g x (List.mem_cons_of_mem _ hx))
        rcases List.mem_cons.1 hx with rfl | hx
        · exact ⟨c, hz⟩
        · exact h x hx
      by_cases hz : z = true
      · refine ev_pos hz ?_
        by_cases h0 : xs[i] = 0
        · exact ev_pos h0 (hrec fun _ => h0)
        · refine ev_neg h0 (ev_some ?_)
          exact (h2 fun g => h0 ((g _ List.mem_cons_self).2 hz)).symm
      · exact ev_neg hz (hrec fun h => absurd h hz)
    · refine ev_neg (by rw [decide_eq_false c]; exact Bool.false_ne_true) (ev_some ?_)
      exact (h2 fun g => c (g _ List.mem_cons_self).1).symm
theorem l3List_ev (xs : List Int) (n : Nat) (most : Int) (z : Bool) (hn : n ≤ 8) (r : Bool) (h1 : LiOk xs n most (z = true) → r = true) (h2 : ¬ LiOk xs n most (z = true) → r = false) : Ev (fun k => spec_l3List.f k xs (n : Int) most z) r := by
  unfold spec_l3List.f
  by_cases hl : xs.length = n
  · exact ev_pos (by omega) (l3List_at xs n most z hn hl r n 0 (by omega) (fun h => h1 ⟨hl, h⟩) (fun h => h2 fun g => h g.2))
  · exact ev_neg (by omega) (ev_some (h2 fun g => hl g.1).symm)
theorem l3List_dec (xs : List Int) (n : Nat) (most : Int) (z : Bool) (hn : n ≤ 8) (Z : Prop) (hz : (z = true) = Z) : Ev (fun k => spec_l3List.f k xs (n : Int) most z) (@decide (LiOk xs n most Z) (Classical.propDecidable _)) := by
  subst hz
  exact l3List_ev xs n most z hn _ (fun h => @decide_eq_true _ (Classical.propDecidable _) h) (fun h => @decide_eq_false _ (Classical.propDecidable _) h)
theorem spec_sketchOk_j1 (c s mn mx : Int) (h r : List Int) (R : List (List Int)) (hR : R.length = 2) (f : Bool) (v : Bool)
    (hv : f = false → LiOk h 8 1000000000 (c = 0) → LiOk r 8 17 (c = 0) → LiOk (rd_L2 R 0) 4 1000000000 (c = 0) → LiOk (rd_L2 R 1) 4 1000000000 (c = 0) → v = true)
    (hn : ¬ (f = false ∧ LiOk h 8 1000000000 (c = 0) ∧ LiOk r 8 17 (c = 0) ∧ LiOk (rd_L2 R 0) 4 1000000000 (c = 0) ∧ LiOk (rd_L2 R 1) 4 1000000000 (c = 0)) → v = false) :
    Ev (fun k => spec_SketchOk.j1 k (c == 0) f c s mn mx h r R) v := by
  have ez : ((c == 0) = true) = (c = 0) := by simp
  refine Ev.step (fun _ => rfl) ?_
  simp only [spec_SketchOk.j1]
  refine ev_if (fun hf => ev_some (hn fun g => by rw [hf] at g; exact absurd g.1 (by simp)).symm) (fun hf => ?_)
  have hf' : f = false := by simpa using hf
  have L := fun xs n most hn => l3List_dec xs n most (c == 0) hn (c = 0) ez
  refine Ev.bind (L h 8 1000000000 (by omega)) ?_
  refine ev_if (fun g1 => ?_) (fun g1 => ev_some (hn fun g => g1 (@decide_eq_true _ (Classical.propDecidable _) g.2.1)).symm)
  refine Ev.bind (L r 8 17 (by omega)) ?_
  refine ev_if (fun g2 => ?_) (fun g2 => ev_some (hn fun g => g2 (@decide_eq_true _ (Classical.propDecidable _) g.2.2.1)).symm)
  refine ev_pos (by omega) (Ev.bind (L (rd_L2 R 0) 4 1000000000 (by omega)) ?_)
  refine ev_if (fun g3 => ?_) (fun g3 => ev_some (hn fun g => g3 (@decide_eq_true _ (Classical.propDecidable _) g.2.2.2.1)).symm)
  refine ev_pos (by omega) (Ev.bind (L (rd_L2 R 1) 4 1000000000 (by omega)) (ev_some ?_))
  have t1 := @of_decide_eq_true _ (Classical.propDecidable _) g1
  have t2 := @of_decide_eq_true _ (Classical.propDecidable _) g2
  have t3 := @of_decide_eq_true _ (Classical.propDecidable _) g3
  by_cases t4 : LiOk (rd_L2 R 1) 4 1000000000 (c = 0)
  · rw [hv hf' t1 t2 t3 t4]
    exact @decide_eq_true _ (Classical.propDecidable _) t4
  · rw [hn fun g => t4 g.2.2.2.2]
    exact @decide_eq_false _ (Classical.propDecidable _) t4
theorem spec_sketchOk_ev (c s mn mx : Int) (h r : List Int) (R : List (List Int)) : Ev (fun k => spec_SketchOk.f k c s mn mx h r R) (skOk c s mn mx h r R) := by
  have bad : ¬ SkOk c s mn mx h r R → Ev (fun k => spec_SketchOk.j0 k true c s mn mx h r R) (skOk c s mn mx h r R) := by
    intro hb;refine Ev.step (fun _ => rfl) ?_;simp only [spec_SketchOk.j0];exact ev_pos (by trivial) (ev_some (skOk_false hb).symm)
  unfold spec_SketchOk.f
  refine ev_bind0 (l1In_is _ _ _) ?_
  by_cases a1 : 0 ≤ c ∧ c ≤ 1000000000
  case neg => exact ev_neg (by rw [decide_eq_false a1]; exact Bool.false_ne_true) (bad fun g => a1 g.1)
  refine ev_pos (decide_eq_true a1) (ev_bind0 (l1In_is _ _ _) ?_)
  by_cases a2 : 0 ≤ s ∧ s ≤ 1000000000
  case neg => exact ev_neg (by rw [decide_eq_false a2]; exact Bool.false_ne_true) (bad fun g => a2 g.2.1)
  refine ev_pos (decide_eq_true a2) (ev_bind0 (l1In_is _ _ _) ?_)
  by_cases a3 : 0 ≤ mn ∧ mn ≤ 1000000
  case neg => exact ev_neg (by rw [decide_eq_false a3]; exact Bool.false_ne_true) (bad fun g => a3 g.2.2.1)
  refine ev_pos (decide_eq_true a3) (ev_bind0 (l1In_is _ _ _) ?_)
  by_cases a4 : 0 ≤ mx ∧ mx ≤ 1000000
  case neg => exact ev_neg (by rw [decide_eq_false a4]; exact Bool.false_ne_true) (bad fun g => a4 g.2.2.2.1)
  refine ev_pos (decide_eq_true a4) ?_
  by_cases a5 : mn ≤ mx
  case neg => exact ev_pos (by omega) (bad fun g => a5 g.2.2.2.2.1)
  refine ev_neg (by omega) ?_
  by_cases a6 : R.length = 2
  case neg =>
    have e : ((R.length : Int) != 2) = true := by simp; omega
    rw [e]
    exact bad fun g => a6 g.2.2.2.2.2.1
  have e : ((R.length : Int) != 2) = false := by simp; omega
  rw [e]
  refine Ev.step (fun _ => rfl) ?_
  simp only [spec_SketchOk.j0]
  refine ev_neg (by simp) ?_
  have fin : ∀ f : Bool, (f = false ↔ (c = 0 → s = 0 ∧ mx = 0)) → Ev (fun k => spec_SketchOk.j1 k (c == 0) f c s mn mx h r R) (skOk c s mn mx h r R) := by
    intro f hf;refine spec_sketchOk_j1 c s mn mx h r R a6 f _ (fun g1 g2 g3 g4 g5 => skOk_true.2 ⟨a1, a2, a3, a4, a5, a6, hf.1 g1, g2, g3, g4, g5⟩) (fun g => skOk_false fun q => g ⟨hf.2 q.2.2.2.2.2.2.1, q.2.2.2.2.2.2.2⟩)
  refine ev_if (fun z => ?_) (fun z => fin false ⟨fun _ h => absurd h z, fun _ => rfl⟩)
  refine ev_if (fun z2 => fin _ ?_) (fun z2 => fin true ⟨fun h => by simp at h, fun h => absurd (h z).1 z2⟩)
  constructor
  · intro h _
    exact ⟨z2, by simpa using h⟩
  · intro h
    simpa using (h z).2
theorem sum_bd (ys : List Int) (h : ∀ x ∈ ys, 0 ≤ x ∧ x ≤ 1000000000) : 0 ≤ ys.sum ∧ ys.sum ≤ ys.length * 1000000000 := by
  induction ys with
  | nil => simp
  | cons y ys ih =>
    have h1 := h y List.mem_cons_self
    have h2 := ih fun x hx => h x (List.mem_cons_of_mem _ hx)
    rw [List.sum_cons, List.length_cons]
    omega
theorem sum_zero (ys : List Int) (h : ∀ x ∈ ys, 0 ≤ x ∧ x ≤ 1000000000) (h0 : ys.sum = 0) : ∀ x ∈ ys, x = 0 := by
  induction ys with
  | nil => exact fun x hx => by cases hx
  | cons y ys ih =>
    intro x hx;have h1 := h y List.mem_cons_self
    have h2 := sum_bd ys fun x hx => h x (List.mem_cons_of_mem _ hx)
    rw [List.sum_cons] at h0
    rcases List.mem_cons.1 hx with rfl | hx
    · omega
    · exact ih (fun x hx => h x (List.mem_cons_of_mem _ hx)) (by omega) x hx
theorem zero_sum (ys : List Int) (h : ∀ x ∈ ys, x = 0) : ys.sum = 0 := by
  induction ys with
  | nil => rfl
  | cons y ys ih =>
    rw [List.sum_cons, h y List.mem_cons_self, ih fun x hx => h x (List.mem_cons_of_mem _ hx)]
    rfl
theorem copyInts_is (xs : List Int) (h : xs.length ≤ 1048576) : impl_copyInts.f xs = some xs := by
  unfold impl_copyInts.f
  rw [if_pos (by simp; omega)]
  rfl
theorem counts_ev (c s mn mx : Int) (h r A B : List Int) (hh : h.length ≤ 8) (hr : r.length ≤ 8) (hA : A.length ≤ 8) (hB : B.length ≤ 8) :
    Ev (fun k => impl_counts.f k c s mn mx h r [A, B]) (((h ++ r) ++ A) ++ B) := by
  unfold impl_counts.f
  refine ev_bind0 (copyInts_is h (by omega)) (ev_pos (by omega) ?_)
  refine Ev.step (fun _ => rfl) ?_
  simp only [impl_counts.l0]
  refine ev_pos (by simp) (ev_pos (by simp) (ev_pos (by simp) ?_))
  have e0 : rd_L2 [A, B] 0 = A := rfl
  have w1 : wrap64 (0 + 1) = 1 := by unfold wrap64; omega
  have w2 : wrap64 (1 + 1) = 2 := by unfold wrap64; omega
  have e1 : rd_L2 [A, B] (wrap64 (0 + 1)) = B := by rw [w1]; rfl
  refine ev_pos (by rw [e0]; simp; omega) ?_
  refine Ev.step (fun _ => rfl) ?_
  simp only [impl_counts.l0]
  refine ev_pos (by rw [w1]; simp) (ev_pos (by rw [w1]; omega) (ev_pos (by rw [w1]; simp) ?_))
  refine ev_pos (by rw [e0, e1]; simp; omega) ?_
  refine Ev.step (fun _ => rfl) ?_
  simp only [impl_counts.l0]
  exact ev_neg (by rw [w1, w2]; simp) (ev_some (by rw [e0, e1]))
theorem impl_sketchOk_l1 (c s mn mx : Int) (h r : List Int) (R : List (List Int)) (v : Bool) (t : Int) (hr : r.length ≤ 8) (d : Nat) : ∀ i : Nat, i + d = r.length →
    ((∀ x ∈ r.drop i, x ≤ 17) → v = if c = 0 then (t == 0) else decide (mn ≤ mx ∧ mx ≤ 1000000)) → (¬ (∀ x ∈ r.drop i, x ≤ 17) → v = false) →
    Ev (fun k => impl_SketchOk.l1 k t r (r.length : Int) (i : Int) c s mn mx h r R) v := by
  induction d with
  | zero =>
    intro i hi h1 _;refine Ev.step (fun _ => rfl) ?_;simp only [impl_SketchOk.l1];refine ev_neg (by omega) ?_;rw [h1 (fun x hx => by rw [List.drop_of_length_le (by omega)] at hx; cases hx)]
    by_cases hc : c = 0
    · exact ev_pos hc (ev_some (by rw [if_pos hc]))
    · refine ev_neg hc (ev_if (fun g => ev_some ?_) (fun g => ev_some (by rw [if_neg hc]; exact (decide_eq_false fun q => g q.1).symm)))
      rw [if_neg hc];exact decide_eq_decide.mpr ⟨fun x => ⟨g, x⟩, fun x => x.2⟩
  | succ d ih =>
    intro i hi h1 h2
    have hg : i < r.length := by omega
    rw [List.drop_eq_getElem_cons hg] at h1 h2;refine Ev.step (fun _ => rfl) ?_;simp only [impl_SketchOk.l1];rw [wsucc (by omega), rd_get hg];refine ev_pos (by omega) (ev_pos (by omega) (ev_pos (by omega) ?_))
    by_cases g : r[i] > 17
    · exact ev_pos g (ev_some (h2 fun q => by have := q _ List.mem_cons_self; omega).symm)
    · refine ev_neg g (ih (i + 1) (by omega) (fun q => h1 fun x hx => ?_) (fun q => h2 fun p => q fun x hx => p x (List.mem_cons_of_mem _ hx)))
      rcases List.mem_cons.1 hx with rfl | hx
      · omega
      · exact q x hx
theorem impl_sketchOk_l0 (c s mn mx : Int) (h r : List Int) (R : List (List Int)) (v : Bool) (ys : List Int) (hy : ys.length ≤ 100) (d : Nat) : ∀ (i : Nat) (t : Int), i + d = ys.length → 0 ≤ t → t ≤ (i : Int) * 1000000000 →
    ((∀ x ∈ ys.drop i, 0 ≤ x ∧ x ≤ 1000000000) → Ev (fun k => impl_SketchOk.l1 k (t + (ys.drop i).sum) r (r.length : Int) 0 c s mn mx h r R) v) → (¬ (∀ x ∈ ys.drop i, 0 ≤ x ∧ x ≤ 1000000000) → v = false) →
    Ev (fun k => impl_SketchOk.l0 k t ys (ys.length : Int) (i : Int) c s mn mx h r R) v := by
  induction d with
  | zero =>
    intro i t hi h0 ht h1 _;refine Ev.step (fun _ => rfl) ?_;simp only [impl_SketchOk.l0];refine ev_neg (by omega) ?_;rw [List.drop_of_length_le (by omega)] at h1;have := h1 (fun x hx => by cases hx);rw [List.sum_nil, Int.add_zero] at this;exact this
  | succ d ih =>
    intro i t hi h0 ht h1 h2
    have hg : i < ys.length := by omega
    rw [List.drop_eq_getElem_cons hg] at h1 h2;refine Ev.step (fun _ => rfl) ?_;simp only [impl_SketchOk.l0];rw [wsucc (by omega), rd_get hg];refine ev_pos (by omega) (ev_pos (by omega) (ev_pos (by omega) (ev_bind0 (within_is _ _ _) ?_)))
    by_cases g : 0 ≤ ys[i] ∧ ys[i] ≤ 1000000000
    · refine ev_pos (decide_eq_true g) ?_
      rw [w64 (x := t + ys[i]) (by omega) (by omega)];refine ih (i + 1) _ (by omega) (by omega) (by omega) (fun q => ?_) (fun q => h2 fun p => q fun x hx => p x (List.mem_cons_of_mem _ hx));rw [Int.add_assoc, ← List.sum_cons]
      refine h1 fun x hx => ?_
      rcases List.mem_cons.1 hx with rfl | hx
      · exact g
      · exact q x hx
    · exact ev_neg (by rw [decide_eq_false g]; exact Bool.false_ne_true) (ev_some (h2 fun q => g (q _ List.mem_cons_self)).symm)
theorem impl_sketchOk_ev (c s mn mx : Int) (h r : List Int) (R : List (List Int)) : Ev (fun k => impl_SketchOk.f k c s mn mx h r R) (skOk c s mn mx h r R) := by
  have bad : ¬ SkOk c s mn mx h r R → Ev (fun k => impl_SketchOk.j0 k true c s mn mx h r R) (skOk c s mn mx h r R) := by
    intro hb;refine Ev.step (fun _ => rfl) ?_;simp only [impl_SketchOk.j0];exact ev_pos (by trivial) (ev_some (skOk_false hb).symm)
  unfold impl_SketchOk.f
  by_cases a1 : h.length = 8
  case neg => exact ev_neg (by omega) (bad fun g => a1 g.2.2.2.2.2.2.2.1.1)
  refine ev_pos (by omega) ?_
  by_cases a2 : r.length = 8
  case neg => exact ev_neg (by omega) (bad fun g => a2 g.2.2.2.2.2.2.2.2.1.1)
  refine ev_pos (by omega) ?_
  by_cases a3 : R.length = 2
  case neg => exact ev_neg (by omega) (bad fun g => a3 g.2.2.2.2.2.1)
  refine ev_pos (by omega) (ev_pos (by omega) ?_)
  by_cases a4 : (rd_L2 R 0).length = 4
  case neg => exact ev_neg (by omega) (bad fun g => a4 g.2.2.2.2.2.2.2.2.2.1.1)
  refine ev_pos (by omega) (ev_pos (by omega) ?_)
  by_cases a5 : (rd_L2 R 1).length = 4
  case neg =>
    have e : (((rd_L2 R 1).length : Int) != 4) = true := by simp; omega
    rw [e]
    exact bad fun g => a5 g.2.2.2.2.2.2.2.2.2.2.1
  have e : (((rd_L2 R 1).length : Int) != 4) = false := by simp; omega
  rw [e]
  clear e bad
  obtain ⟨A, B, rfl⟩ : ∃ A B, R = [A, B] := by
    match R, a3 with
    | [A, B], _ => exact ⟨A, B, rfl⟩
  have eA : rd_L2 [A, B] 0 = A := rfl
  have eB : rd_L2 [A, B] 1 = B := rfl
  rw [eA] at a4
  rw [eB] at a5
  refine Ev.step (fun _ => rfl) ?_
  simp only [impl_SketchOk.j0]
  refine ev_neg (by simp) (Ev.bind (counts_ev c s mn mx h r A B (by omega) (by omega) (by omega) (by omega)) (ev_bind0 rfl (ev_pos ?_ (ev_bind0 rfl ?_))))
  · simp only [List.length_append, List.length_cons, List.length_nil]
    omega
  generalize hys : (((h ++ r) ++ A) ++ B) ++ [c, s, mn, mx] = ys
  have hyl : ys.length = 28 := by
    rw [← hys];simp only [List.length_append, List.length_cons, List.length_nil]
    omega
  have hmem : ∀ P : Int → Prop, (∀ x ∈ ys, P x) ↔ (∀ x ∈ h, P x) ∧ (∀ x ∈ r, P x) ∧ (∀ x ∈ A, P x) ∧ (∀ x ∈ B, P x) ∧ P c ∧ P s ∧ P mn ∧ P mx := by
    intro P;rw [← hys]
    constructor
    · intro q
      exact ⟨fun x hx => q x (by simp [hx]), fun x hx => q x (by simp [hx]), fun x hx => q x (by simp [hx]), fun x hx => q x (by simp [hx]), q c (by simp), q s (by simp), q mn (by simp), q mx (by simp)⟩
    · rintro ⟨q1, q2, q3, q4, q5, q6, q7, q8⟩ x hx
      simp only [List.mem_append, List.mem_cons, List.not_mem_nil, or_false] at hx
      rcases hx with (((hx | hx) | hx) | hx) | rfl | rfl | rfl | rfl
      · exact q1 x hx
      · exact q2 x hx
      · exact q3 x hx
      · exact q4 x hx
      · exact q5
      · exact q6
      · exact q7
      · exact q8
  refine impl_sketchOk_l0 c s mn mx h r [A, B] _ ys (by omega) 28 0 0 (by omega) (by omega) (by omega) (fun q => ?_) (fun q => skOk_false fun g => q ?_)
  · rw [List.drop_zero] at q
    rw [List.drop_zero, Int.zero_add];have qq := (hmem _).1 q;refine impl_sketchOk_l1 c s mn mx h r [A, B] _ ys.sum (by omega) 8 0 (by omega) (fun p => ?_) (fun p => skOk_false fun g => p fun x hx => ?_)
    · rw [List.drop_zero] at p
      by_cases hc : c = 0
      · rw [if_pos hc]
        by_cases hz : ys.sum = 0
        · have z := (hmem _).1 (sum_zero ys q hz)
          have e : (ys.sum == 0) = true := by simpa using hz
          rw [e];refine skOk_true.2 ⟨by omega, by omega, by omega, by omega, by omega, rfl, fun _ => ⟨z.2.2.2.2.2.1, z.2.2.2.2.2.2.2⟩, ⟨a1, fun x hx => ⟨qq.1 x hx, fun _ => z.1 x hx⟩⟩, ⟨a2, fun x hx => ⟨⟨(qq.2.1 x hx).1, p x hx⟩, fun _ => z.2.1 x hx⟩⟩, ⟨a4, fun x hx => ⟨qq.2.2.1 x hx, fun _ => z.2.2.1 x hx⟩⟩, ⟨a5, fun x hx => ⟨qq.2.2.2.1 x hx, fun _ => z.2.2.2.1 x hx⟩⟩⟩
        · have e : (ys.sum == 0) = false := by simpa using hz
          rw [e]
          refine skOk_false fun g => hz (zero_sum ys ((hmem _).2 ?_))
          obtain ⟨g1, g2, g3, g4, g5, g6, g7, g8, g9, g10, g11⟩ := g;have := g7 hc;exact ⟨fun x hx => (g8.2 x hx).2 hc, fun x hx => (g9.2 x hx).2 hc, fun x hx => (g10.2 x hx).2 hc, fun x hx => (g11.2 x hx).2 hc, hc, this.1, by omega, this.2⟩
      · rw [if_neg hc]
        by_cases hm : mn ≤ mx ∧ mx ≤ 1000000
        · rw [decide_eq_true hm]
          refine skOk_true.2 ⟨qq.2.2.2.2.1, qq.2.2.2.2.2.1, by omega, by omega, hm.1, rfl, fun z => absurd z hc, ⟨a1, fun x hx => ⟨qq.1 x hx, fun z => absurd z hc⟩⟩, ⟨a2, fun x hx => ⟨⟨(qq.2.1 x hx).1, p x hx⟩, fun z => absurd z hc⟩⟩, ⟨a4, fun x hx => ⟨qq.2.2.1 x hx, fun z => absurd z hc⟩⟩, ⟨a5, fun x hx => ⟨qq.2.2.2.1 x hx, fun z => absurd z hc⟩⟩⟩
        · rw [decide_eq_false hm]
          exact skOk_false fun g => hm ⟨g.2.2.2.2.1, g.2.2.2.1.2⟩
    · rw [List.drop_zero] at hx
      exact (g.2.2.2.2.2.2.2.2.1.2 x hx).1.2
  · rw [List.drop_zero]
    obtain ⟨g1, g2, g3, g4, g5, g6, g7, g8, g9, g10, g11⟩ := g;exact (hmem _).2 ⟨fun x hx => (g8.2 x hx).1, fun x hx => by have := (g9.2 x hx).1; omega, fun x hx => (g10.2 x hx).1, fun x hx => (g11.2 x hx).1, g1, g2, by omega, by omega⟩
noncomputable def itemOk (q cl ke wi c s mn mx : Int) (h r : List Int) (R : List (List Int)) : Bool :=
  decide (1 ≤ q ∧ q ≤ 60) && (decide (0 ≤ cl ∧ cl ≤ 1) && (decide (0 ≤ ke ∧ ke ≤ 4) && (decide (0 ≤ wi ∧ wi ≤ 20) && skOk c s mn mx h r R)))
theorem spec_itemOk_ev (q cl ke wi c s mn mx : Int) (h r : List Int) (R : List (List Int)) : Ev (fun k => spec_ItemOk.f k q cl ke wi c s mn mx h r R) (itemOk q cl ke wi c s mn mx h r R) := by
  unfold spec_ItemOk.f itemOk spec_l6Place.f
  refine ev_bind0 (l1In_is _ _ _) ?_
  cases decide (1 ≤ q ∧ q ≤ 60)
  · exact ev_neg (by simp) (ev_some rfl)
  refine ev_pos rfl (ev_bind0 (l1In_is _ _ _) ?_)
  cases decide (0 ≤ cl ∧ cl ≤ 1)
  · exact ev_neg (by simp) (ev_some rfl)
  refine ev_pos rfl ?_
  rw [l1In_is, l1In_is, Option.bind_some]
  cases decide (0 ≤ ke ∧ ke ≤ 4)
  · exact ev_bind0 rfl (ev_neg (by simp) (ev_some rfl))
  cases decide (0 ≤ wi ∧ wi ≤ 20)
  · exact ev_bind0 rfl (ev_neg (by simp) (ev_some rfl))
  exact ev_bind0 rfl (ev_pos rfl (Ev.bind (spec_sketchOk_ev c s mn mx h r R) (ev_some (by simp))))
theorem impl_itemOk_ev (q cl ke wi c s mn mx : Int) (h r : List Int) (R : List (List Int)) : Ev (fun k => impl_ItemOk.f k q cl ke wi c s mn mx h r R) (itemOk q cl ke wi c s mn mx h r R) := by
  unfold impl_ItemOk.f itemOk
  refine ev_bind0 (within_is _ _ _) ?_
  cases decide (1 ≤ q ∧ q ≤ 60)
  · exact ev_neg (by simp) (ev_some rfl)
  refine ev_pos rfl (ev_bind0 (within_is _ _ _) ?_)
  cases decide (0 ≤ cl ∧ cl ≤ 1)
  · exact ev_neg (by simp) (ev_some rfl)
  refine ev_pos rfl (ev_bind0 (within_is _ _ _) ?_)
  cases decide (0 ≤ ke ∧ ke ≤ 4)
  · exact ev_neg (by simp) (ev_some rfl)
  refine ev_pos rfl (ev_bind0 (within_is _ _ _) ?_)
  cases decide (0 ≤ wi ∧ wi ≤ 20)
  · exact ev_neg (by simp) (ev_some rfl)
  exact ev_pos rfl (Ev.bind (impl_sketchOk_ev c s mn mx h r R) (ev_some (by simp)))
def setOkFrom (s : List S70) : Nat → Nat → Bool
  | 0, _ => true
  | d + 1, i =>
    if 0 ≤ (rd_T70 s (i : Int)).f0 ∧ (rd_T70 s (i : Int)).f0 ≤ 9999 then
      if (rd_T70 s (i : Int)).f0 ≤ (rd_T70 s (i : Int)).f1 ∧ (rd_T70 s (i : Int)).f1 ≤ 9999 then
        if 0 < i then
          if (rd_T70 s (i : Int)).f0 ≤ wrap64 ((rd_T70 s ((i - 1 : Nat) : Int)).f1 + 1) then false else setOkFrom s d (i + 1)
        else setOkFrom s d (i + 1)
      else false
    else false
def setOk (s : List S70) : Bool := setOkFrom s s.length 0
theorem impl_setOk_at (s : List S70) (hn : s.length ≤ 1048576) (d : Nat) : ∀ i : Nat, i + d = s.length → Ev (fun k => impl_SetOk.l0 k s s (s.length : Int) (i : Int)) (setOkFrom s d i) := by
  induction d with
  | zero =>
    intro i hi;refine Ev.step (fun _ => rfl) ?_;simp only [impl_SetOk.l0];exact ev_neg (by omega) (ev_some rfl)
  | succ d ih =>
    intro i hi;refine Ev.step (fun _ => rfl) ?_;simp only [impl_SetOk.l0];unfold setOkFrom;rw [wsucc (by omega)];refine ev_pos (by omega) (ev_pos (by omega) (ev_pos (by omega) (ev_bind0 (within_is _ _ _) ?_)))
    by_cases h1 : 0 ≤ (rd_T70 s (i : Int)).f0 ∧ (rd_T70 s (i : Int)).f0 ≤ 9999
    · rw [if_pos h1]
      refine ev_pos (decide_eq_true h1) (ev_bind0 (within_is _ _ _) ?_)
      by_cases h2 : (rd_T70 s (i : Int)).f0 ≤ (rd_T70 s (i : Int)).f1 ∧ (rd_T70 s (i : Int)).f1 ≤ 9999
      · rw [if_pos h2]
        refine ev_pos (decide_eq_true h2) ?_
        by_cases h3 : 0 < i
        · rw [if_pos h3, wpred h3 (by omega)]
          refine ev_pos (by omega) (ev_pos (by omega) (ev_pos (by omega) ?_))
          by_cases h4 : (rd_T70 s (i : Int)).f0 ≤ wrap64 ((rd_T70 s ((i - 1 : Nat) : Int)).f1 + 1)
          · rw [if_pos h4]
            exact ev_pos h4 (ev_some rfl)
          · rw [if_neg h4]
            exact ev_neg h4 (ih (i + 1) (by omega))
        · rw [if_neg h3]
          exact ev_neg (by omega) (ih (i + 1) (by omega))
      · rw [if_neg h2]
        exact ev_neg (by rw [decide_eq_false h2]; exact Bool.false_ne_true) (ev_some rfl)
    · rw [if_neg h1]
      exact ev_neg (by rw [decide_eq_false h1]; exact Bool.false_ne_true) (ev_some rfl)
theorem impl_setOk_ev (s : List S70) (hn : s.length ≤ 1048576) : Ev (fun k => impl_SetOk.f k s) (setOk s) := impl_setOk_at s hn s.length 0 (by omega)
noncomputable def entryOk (ke wi : Int) (ids : List S70) (c s mn mx : Int) (h r : List Int) (R : List (List Int)) : Bool :=
  decide (0 ≤ ke ∧ ke ≤ 4) && (decide (0 ≤ wi ∧ wi ≤ 20) && (decide ((ids.length : Int) > 0) && (setOk ids && skOk c s mn mx h r R)))
theorem impl_entryOk_ev (ke wi : Int) (ids : List S70) (c s mn mx : Int) (h r : List Int) (R : List (List Int)) (hI : ids.length ≤ 1048576) : Ev (fun k => impl_EntryOk.f k ke wi ids c s mn mx h r R) (entryOk ke wi ids c s mn mx h r R) := by
  unfold impl_EntryOk.f entryOk
  refine ev_bind0 (within_is _ _ _) ?_
  cases decide (0 ≤ ke ∧ ke ≤ 4)
  · exact ev_neg (by simp) (ev_some rfl)
  refine ev_pos rfl (ev_bind0 (within_is _ _ _) ?_)
  cases decide (0 ≤ wi ∧ wi ≤ 20)
  · exact ev_neg (by simp) (ev_some rfl)
  refine ev_pos rfl (Ev.bind (impl_setOk_ev ids hI) ?_)
  cases setOk ids
  · exact ev_neg (by simp) (ev_some (by simp))
  refine ev_pos rfl ?_
  by_cases g : (ids.length : Int) > 0
  · rw [decide_eq_true g]
    exact ev_pos g (Ev.bind (impl_sketchOk_ev c s mn mx h r R) (ev_some (by simp)))
  · rw [decide_eq_false g]
    exact ev_neg g (ev_some rfl)
def sizeFrom (s : List S70) : Nat → Nat → Int → Int
  | 0, _, n => n
  | d + 1, i, n => sizeFrom s d (i + 1) (wrap64 (n + (rd_T70 s (i : Int)).f1 - (rd_T70 s (i : Int)).f0 + 1))
def setSize (s : List S70) : Int := if setOk s = true then sizeFrom s s.length 0 0 else 0
theorem impl_size_at (s : List S70) (hn : s.length ≤ 1048576) (d : Nat) : ∀ (i : Nat) (n : Int), i + d = s.length → Ev (fun k => impl_SetSize.l0 k n s (s.length : Int) (i : Int)) (sizeFrom s d i n) := by
  induction d with
  | zero =>
    intro i n hi;refine Ev.step (fun _ => rfl) ?_;simp only [impl_SetSize.l0];exact ev_neg (by omega) (ev_some rfl)
  | succ d ih =>
    intro i n hi;refine Ev.step (fun _ => rfl) ?_;simp only [impl_SetSize.l0];refine ev_pos (by omega) (ev_pos (by omega) (ev_pos (by omega) ?_));rw [wsucc (by omega)]
    have e : wrap64 (n + wrap64 (wrap64 ((rd_T70 s (i : Int)).f1 - (rd_T70 s (i : Int)).f0) + 1)) = wrap64 (n + (rd_T70 s (i : Int)).f1 - (rd_T70 s (i : Int)).f0 + 1) := by
      unfold wrap64
      omega
    rw [e];exact ih (i + 1) _ (by omega)
theorem impl_setSize_ev (s : List S70) (hn : s.length ≤ 1048576) : Ev (fun k => impl_SetSize.f k s) (setSize s) := by
  unfold impl_SetSize.f setSize
  refine Ev.bind (impl_setOk_ev s hn) ?_
  by_cases h : setOk s = true
  · rw [if_pos h]
    exact ev_pos h (impl_size_at s hn s.length 0 0 (by omega))
  · rw [if_neg h]
    exact ev_neg h (ev_some rfl)
def clipV (a : Int) : Nat := if a ≤ 0 then 0 else if a ≤ 1000000 then a.toNat else 1000000
theorem clipV_le (a : Int) : clipV a ≤ 1000000 := by
  unfold clipV
  split
  · omega
  · split <;> omega
def bl : Nat → Nat → Nat
  | 0, _ => 0
  | d + 1, x => if x = 0 then 0 else bl d (x / 2) + 1
theorem bl_le (d x : Nat) : bl d x ≤ d := by
  induction d generalizing x with
  | zero => exact Nat.le_refl _
  | succ d ih =>
    unfold bl
    split
    · omega
    · have := ih (x / 2)
      omega
set_option maxRecDepth 100000 in
def bucketOf (a : Int) : Int := (((bl 20 (clipV a) + 2) / 3 : Nat) : Int)
theorem third (q : Nat) (h : q ≤ 20) : wrap64 (Int.tdiv (wrap64 ((q : Int) + 2)) 3) = (((q + 2) / 3 : Nat) : Int) := by
  rw [w64 (x := (q : Int) + 2) (by omega) (by omega), Int.tdiv_eq_ediv_of_nonneg (by omega), w64 (by omega) (by omega)]
  omega
theorem spec_clip_is (a : Int) : spec_l2Clip.f a 1000000 = some ((clipV a : Nat) : Int) := by
  unfold spec_l2Clip.f spec_l1Min.f spec_l1Max.f clipV
  by_cases h : a < 1000000
  · rw [if_pos h]
    simp only [Option.bind_some]
    by_cases h2 : a ≤ 0
    · rw [if_pos h2]
      by_cases h3 : 0 > a
      · rw [if_pos h3]
        rfl
      · rw [if_neg h3]
        simp only [Option.bind_some, Option.some.injEq]
        omega
    · rw [if_neg (by omega), if_neg h2, if_pos (by omega)]
      simp only [Option.bind_some, Option.some.injEq]
      omega
  · rw [if_neg h]
    simp only [Option.bind_some];rw [if_neg (by omega), if_neg (by omega : ¬ a ≤ 0)]
    by_cases h2 : a ≤ 1000000
    · rw [if_pos h2]
      simp only [Option.bind_some, Option.some.injEq]
      omega
    · rw [if_neg h2]
      rfl
theorem spec_bucket_at (d : Nat) : ∀ (x n : Nat), x < 2 ^ d → n + d ≤ 20 → Ev (fun k => spec_BucketOf.l0 k (x : Int) (n : Int)) (((n + bl d x + 2) / 3 : Nat) : Int) := by
  induction d with
  | zero =>
    intro x n hx hn
    obtain rfl : x = 0 := by omega
    refine Ev.step (fun _ => rfl) ?_;simp only [spec_BucketOf.l0];exact ev_neg (by omega) (ev_some (third n (by omega)))
  | succ d ih =>
    intro x n hx hn;refine Ev.step (fun _ => rfl) ?_;simp only [spec_BucketOf.l0];unfold bl
    by_cases h0 : x = 0
    · rw [if_pos h0]
      exact ev_neg (by omega) (ev_some (third n (by omega)))
    · rw [if_neg h0]
      refine ev_pos (by omega) ?_
      have e : wrap64 (Int.tdiv (x : Int) 2) = ((x / 2 : Nat) : Int) := by
        have : x < 2 ^ 20 := Nat.lt_of_lt_of_le hx (Nat.pow_le_pow_right (by omega) (by omega));rw [Int.tdiv_eq_ediv_of_nonneg (by omega), w64 (by omega) (by omega)]
        omega
      rw [e, wsucc (by omega)];rw [Nat.pow_succ] at hx;have := ih (x / 2) (n + 1) (by omega) (by omega);rw [show n + (bl d (x / 2) + 1) + 2 = n + 1 + bl d (x / 2) + 2 by omega];exact this
theorem spec_bucketOf_ev (a : Int) : Ev (fun k => spec_BucketOf.f k a) (bucketOf a) := by
  unfold spec_BucketOf.f bucketOf
  refine ev_bind0 (spec_clip_is a) ?_
  have := clipV_le a
  have h := spec_bucket_at 20 (clipV a) 0 (by omega) (by omega)
  rw [Nat.zero_add] at h
  exact h
def mixN (a : Int) : Nat := (clipV a * 40503 + 12345) % 65536 ^^^ (clipV a * 40503 + 12345) % 65536 / 256
theorem mixN_lt (a : Int) : mixN a < 65536 := by
  unfold mixN
  have h1 : (clipV a * 40503 + 12345) % 65536 < 2 ^ 16 := by omega
  have := Nat.xor_lt_two_pow (n := 16) h1 (show (clipV a * 40503 + 12345) % 65536 / 256 < 2 ^ 16 by omega)
  omega
theorem mix_val (a : Int) : Go.bits .xor .i64 (Int.tmod (wrap64 (wrap64 (((clipV a : Nat) : Int) * 40503) + 12345)) 65536) (wrap64 (Int.tdiv (Int.tmod (wrap64 (wrap64 (((clipV a : Nat) : Int) * 40503) + 12345)) 65536) 256)) = ((mixN a : Nat) : Int) := by
  have hc := clipV_le a
  have e : Int.tmod (wrap64 (wrap64 (((clipV a : Nat) : Int) * 40503) + 12345)) 65536 = (((clipV a * 40503 + 12345) % 65536 : Nat) : Int) := by
    rw [w64 (x := ((clipV a : Nat) : Int) * 40503) (by omega) (by omega), w64 (by omega) (by omega), Int.tmod_eq_emod_of_nonneg (by omega)]
    omega
  rw [e]
  clear e
  have e2 : wrap64 (Int.tdiv (((clipV a * 40503 + 12345) % 65536 : Nat) : Int) 256) = (((clipV a * 40503 + 12345) % 65536 / 256 : Nat) : Int) := by
    rw [Int.tdiv_eq_ediv_of_nonneg (by omega), w64 (by omega) (by omega)]
    omega
  rw [e2]
  clear e2
  exact xor64 _ _ (by omega) (by omega)
theorem spec_mix_is (a : Int) : spec_Mix.f a = some ((mixN a : Nat) : Int) := by
  unfold spec_Mix.f
  rw [spec_clip_is, Option.bind_some, mix_val]
def rankV (n : Int) : Int := if mixN n = 0 then 17 else ((Lib.ctz 64 (mixN n) : Nat) : Int) + 1
theorem spec_rank_at (m : Nat) : ∀ (j : Nat) (r : Int), 2 ^ j * (2 * m + 1) < 65536 → 0 ≤ r → r + j ≤ 1000 → Ev (fun k => spec_RankOf.l0 k ((2 ^ j * (2 * m + 1) : Nat) : Int) r) (r + (j : Int)) := by
  intro j
  induction j with
  | zero =>
    intro r hx h0 h1;refine Ev.step (fun _ => rfl) ?_;simp only [spec_RankOf.l0];refine ev_neg ?_ (ev_some (by omega));rw [Int.tmod_eq_emod_of_nonneg (by omega)]
    omega
  | succ j ih =>
    intro r hx h0 h1
    have e : 2 ^ (j + 1) * (2 * m + 1) = 2 * (2 ^ j * (2 * m + 1)) := by rw [Nat.pow_succ]; simp [Nat.mul_comm, Nat.mul_left_comm]
    rw [e] at hx ⊢;have ih' := ih (r + 1) (by omega) (by omega) (by omega);generalize 2 ^ j * (2 * m + 1) = y at hx ih';refine Ev.step (fun _ => rfl) ?_;simp only [spec_RankOf.l0];refine ev_pos ?_ ?_
    · rw [Int.tmod_eq_emod_of_nonneg (by omega)]
      omega
    · rw [Int.tdiv_eq_ediv_of_nonneg (by omega), w64 (x := ((2 * y : Nat) : Int) / 2) (by omega) (by omega), w64 (x := r + 1) (by omega) (by omega), show ((2 * y : Nat) : Int) / 2 = (y : Int) by omega, show r + ((j + 1 : Nat) : Int) = r + 1 + (j : Int) by omega]
      exact ih'
theorem rank_lt (n : Int) (h : mixN n ≠ 0) : ∃ m, mixN n = 2 ^ Lib.ctz 64 (mixN n) * (2 * m + 1) ∧ Lib.ctz 64 (mixN n) < 64 := by
  have h2 := mixN_lt n
  have := Lib.ctzFrom_spec 64 (mixN n) (by omega) (by omega)
  unfold Lib.ctz
  rw [if_neg h]
  exact this
theorem spec_rank_ev (n : Int) : Ev (fun k => spec_RankOf.f k n) (rankV n) := by
  unfold spec_RankOf.f rankV
  refine ev_bind0 (spec_mix_is n) ?_
  by_cases h : mixN n = 0
  · rw [if_pos h]
    exact ev_pos (by omega) (ev_some rfl)
  · rw [if_neg h]
    refine ev_neg (by omega) ?_;obtain ⟨m, hm, hk⟩ := rank_lt n h;have hl := mixN_lt n;have e := spec_rank_at m (Lib.ctz 64 (mixN n)) 1 (by rw [← hm]; exact hl) (by omega) (by omega);rw [← hm] at e;rw [Int.add_comm];exact e
def bkN (v : Int) : Nat := (bl 20 (clipV v) + 2) / 3
theorem bucketOf_is (v : Int) : bucketOf v = ((bkN v : Nat) : Int) := rfl
theorem bkN_lt (v : Int) : bkN v < 8 := by
  have := bl_le 20 (clipV v)
  unfold bkN
  omega
theorem rankV_range (v : Int) : 1 ≤ rankV v ∧ rankV v ≤ 17 := by
  unfold rankV
  by_cases h : mixN v = 0
  · rw [if_pos h]; omega
  · rw [if_neg h]
    obtain ⟨m, hm, hk⟩ := rank_lt v h;have hl := mixN_lt v
    have hp : Lib.ctz 64 (mixN v) < 16 := by
      rcases Nat.lt_or_ge (Lib.ctz 64 (mixN v)) 16 with h' | h'
      · exact h'
      · have h2 : 2 ^ 16 ≤ 2 ^ Lib.ctz 64 (mixN v) := Nat.pow_le_pow_right (by omega) h'
        have h3 : 2 ^ Lib.ctz 64 (mixN v) * 1 ≤ 2 ^ Lib.ctz 64 (mixN v) * (2 * m + 1) := Nat.mul_le_mul_left _ (by omega)
        omega
    omega
theorem spec_add_is {a b : Int} (ha : 0 ≤ a ∧ a ≤ 1000000000) (hb : 0 ≤ b ∧ b ≤ 1000000000) : spec_Add.f a b = some (sadd a b) := by
  have c : ∀ x : Int, 0 ≤ x ∧ x ≤ 1000000000 → spec_l2Clip.f x 1000000000 = some x := by
    intro x hx;unfold spec_l2Clip.f spec_l1Min.f spec_l1Max.f
    by_cases h : x < 1000000000
    · simp only [if_pos h, Option.bind_some]
      split
      · congr 1; omega
      · rfl
    · simp only [if_neg h, Option.bind_some]
      rw [if_neg (by omega), show x = 1000000000 by omega]
      rfl
  unfold spec_Add.f spec_l1Min.f
  rw [c a ha, c b hb, Option.bind_some, Option.bind_some, w64 (x := a + b) (by omega) (by omega)]
  unfold sadd
  by_cases h : a + b < 1000000000
  · rw [if_pos h, if_neg (by omega)]
    rfl
  · rw [if_neg h]
    split
    · rfl
    · simp only [Option.bind_some]
      congr 1
      omega
theorem spec_copy_at (c s lo hi : Int) (h r : List Int) (R : List (List Int)) (hR : R.length ≤ 1048576) (hx : ∀ x ∈ R, x.length ≤ 1048576) (d : Nat) : ∀ i : Nat, i + d = R.length →
    Ev (fun k => spec_l3Copy.l0 k (i : Int) c s lo hi h r R c s lo hi h r (R.take i)) (c, s, lo, hi, h, r, R) := by
  induction d with
  | zero =>
    intro i hi';refine Ev.step (fun _ => rfl) ?_;simp only [spec_l3Copy.l0];exact ev_neg (by omega) (ev_some (by rw [show i = R.length by omega, List.take_length]))
  | succ d ih =>
    intro i hi';refine Ev.step (fun _ => rfl) ?_;simp only [spec_l3Copy.l0]
    have hiR : i < R.length := by omega
    have hl := hx _ (List.getElem_mem hiR);rw [wsucc (by omega), rdR_get hiR];simp only [Option.bind_some];refine ev_pos (by omega) (ev_pos (by omega) (ev_pos (by simp; omega) (ev_pos (by simp; omega) ?_)));rw [List.nil_append, ← List.take_succ_eq_append_getElem hiR];exact ih (i + 1) (by omega)
theorem spec_copy_ev (c s lo hi : Int) (h r : List Int) (R : List (List Int)) (hh : h.length ≤ 1048576) (hr : r.length ≤ 1048576) (hR : R.length ≤ 1048576) (hx : ∀ x ∈ R, x.length ≤ 1048576) :
    Ev (fun k => spec_l3Copy.f k c s lo hi h r R) (c, s, lo, hi, h, r, R) := by
  unfold spec_l3Copy.f
  simp only [Option.bind_some]
  refine ev_pos (by simp; omega) (ev_pos (by simp; omega) ?_)
  have := spec_copy_at c s lo hi h r R hR hx R.length 0 (by omega)
  simpa using this
theorem two_rows {R : List (List Int)} (h : R.length = 2) : ∃ p q, R = [p, q] := by
  match R, h with
  | [p, q], _ => exact ⟨p, q, rfl⟩
theorem skOk_su {c s lo hi : Int} {h r p q : List Int} (ok : SkOk c s lo hi h r [p, q]) : Su.Ok ⟨c, s, lo, hi, h, r, p, q⟩ := by
  obtain ⟨h1, h2, h3, h4, h5, h6, h7, h8, h9, h10, h11⟩ := ok
  exact ⟨h1, h2, h3, h4, h5, h7, h8, h9, h10, h11⟩
theorem su_skOk {u : Su} (ok : u.Ok) : SkOk u.c u.s u.mn u.mx u.h u.r [u.p, u.q] := ⟨ok.hc, ok.hs, ok.hmn, ok.hmx, ok.hle, rfl, ok.hz, ok.hh, ok.hr, ok.hp, ok.hq⟩
theorem lok_getD {xs : List Int} {n : Nat} {most : Int} {z : Prop} (h : LOk xs n most z) {i : Nat} (hi : i < n) : 0 ≤ xs.getD i 0 ∧ xs.getD i 0 ≤ most := by
  have h1 : i < xs.length := by rw [h.1]; exact hi
  rw [List.getD_eq_getElem?_getD, List.getElem?_eq_getElem h1]
  exact (h.2 _ (List.getElem_mem h1)).1
def suPut (u : Su) (v : Int) : Su := Su.ins bkN mixN rankV u v
def suOut (u : Su) (b : Bool) : Int × Int × Int × Int × List Int × List Int × List (List Int) × Bool := (u.c, u.s, u.mn, u.mx, u.h, u.r, [u.p, u.q], b)
noncomputable def insV (c s lo hi : Int) (h r : List Int) (R : List (List Int)) (v : Int) : Int × Int × Int × Int × List Int × List Int × List (List Int) × Bool :=
  if skOk c s lo hi h r R = true ∧ 0 ≤ v ∧ v ≤ 1000000 then suOut (suPut ⟨c, s, lo, hi, h, r, rd_L2 R 0, rd_L2 R 1⟩ v) true else (c, s, lo, hi, h, r, R, false)
theorem spec_g_ev (u : Su) (ok : u.Ok) (v : Int) (hv : 0 ≤ v ∧ v ≤ 1000000) : Ev (fun k => spec_Insert.g k u.c u.s u.mn u.mx u.h u.r [u.p, u.q] v) (suOut (suPut u v) true) := by
  have hb := bkN_lt v
  have hm := mixN_lt v
  have q0 : ∀ p q : List Int, [p, q].getD 0 [] = p := fun _ _ => rfl
  have q1 : ∀ p q : List Int, [p, q].getD 1 [] = q := fun _ _ => rfl
  have emx : ∀ x y : Int, spec_l1Max.f x y = some (hi2 x y) := by
    intro x y;unfold spec_l1Max.f hi2
    split <;> rfl
  have emn : ∀ x y : Int, spec_l1Min.f x y = some (lo2 x y) := by
    intro x y;unfold spec_l1Min.f lo2
    split <;> rfl
  unfold spec_Insert.g
  refine ev_bind0 (spec_add_is ok.hc (by omega)) (ev_bind0 (spec_add_is ok.hs (by omega)) ((ev_bind0 (emn _ _) (ev_bind0 (emx _ _) (Ev.bind (spec_bucketOf_ev v) (ev_bind0 (spec_mix_is v) ?_))))))
  rw [bucketOf_is]
  simp only [Int.toNat_natCast, q0, q1]
  refine ev_bind0 (spec_add_is (lok_getD ok.hh hb) (by omega)) (Ev.bind (spec_rank_ev v) (ev_bind0 (emx _ _) (ev_bind0 (spec_add_is (lok_getD ok.hp (by omega)) (by omega)) (ev_bind0 (spec_add_is (lok_getD ok.hq (by omega)) (by omega)) (ev_pos ⟨ok.hh.1, ok.hr.1, rfl, ok.hp.1, ok.hq.1, by omega, by omega, by omega, by omega⟩ (ev_some ?_))))))
  have hz := ok.hz
  have hle := ok.hle
  have hmn := ok.hmn
  simp only [suPut, suOut, Su.ins, upd, Nat.zero_add, Nat.add_comm 1]
theorem spec_insert_ev (c s lo hi : Int) (h r : List Int) (R : List (List Int)) (v : Int) (hh : h.length ≤ 1048576) (hr : r.length ≤ 1048576) (hR : R.length ≤ 1048576) (hx : ∀ x ∈ R, x.length ≤ 1048576) :
    Ev (fun k => spec_Insert.f k c s lo hi h r R v) (insV c s lo hi h r R v) := by
  unfold spec_Insert.f insV
  refine Ev.bind (spec_copy_ev c s lo hi h r R hh hr hR hx) (ev_pos ⟨rfl, rfl, rfl, rfl, rfl, rfl, rfl⟩ (Ev.bind (spec_sketchOk_ev c s lo hi h r R) ?_))
  cases ok : skOk c s lo hi h r R with
  | false =>
    rw [if_neg (by simp)];exact ev_neg (by simp) (ev_some rfl)
  | true =>
    have hok := skOk_true.1 ok;obtain ⟨p, q, rfl⟩ := two_rows hok.2.2.2.2.2.1;refine ev_pos (by trivial) (ev_bind0 (l1In_is v 0 1000000) ?_)
    by_cases hv : 0 ≤ v ∧ v ≤ 1000000
    · rw [if_pos ⟨by trivial, hv⟩]
      exact ev_pos (by simp [hv]) (spec_g_ev ⟨c, s, lo, hi, h, r, p, q⟩ (skOk_su hok) v hv)
    · rw [if_neg (fun e => hv e.2)]
      exact ev_neg (by simp; omega) (ev_some rfl)
def suT (u : Su) : Int × Int × Int × Int × List Int × List Int × List (List Int) := (u.c, u.s, u.mn, u.mx, u.h, u.r, [u.p, u.q])
def suInsO (u : Su) (v : Int) : Su := Su.insO bkN mixN rankV u v
def suOf (l : List Int) : Su := Su.of bkN mixN rankV l
theorem rk17 : ∀ v, 0 ≤ rankV v ∧ rankV v ≤ 17 := fun v => by have := rankV_range v; omega
theorem suInsO_ok {u : Su} (h : u.Ok) (v : Int) : (suInsO u v).Ok := Su.insO_ok bkN mixN rankV rk17 h v
theorem suOf_ok (l : List Int) : (suOf l).Ok := Su.of_ok bkN mixN rankV rk17 l
theorem ins_at {u : Su} (h : u.Ok) (v : Int) : ∃ t, insV u.c u.s u.mn u.mx u.h u.r [u.p, u.q] v = suOut (suInsO u v) t := by
  unfold insV suInsO Su.insO
  rw [skOk_true.2 (su_skOk h)]
  by_cases hv : 0 ≤ v ∧ v ≤ 1000000
  · rw [if_pos ⟨rfl, hv⟩, if_pos hv]
    exact ⟨true, rfl⟩
  · rw [if_neg (fun e => hv e.2), if_neg hv]
    exact ⟨false, rfl⟩
theorem su_lens {u : Su} (h : u.Ok) : u.h.length ≤ 1048576 ∧ u.r.length ≤ 1048576 ∧ [u.p, u.q].length ≤ 1048576 ∧ ∀ x ∈ [u.p, u.q], x.length ≤ 1048576 := by
  have h1 := h.hh.1
  have h2 := h.hr.1
  have h3 := h.hp.1
  have h4 := h.hq.1
  refine ⟨by omega, by omega, by simp, fun x hx => ?_⟩
  simp only [List.mem_cons, List.not_mem_nil, or_false] at hx
  rcases hx with rfl | rfl <;> omega
theorem spec_sketched_at (l : List Int) (hl : l.length ≤ 1048576) (d : Nat) : ∀ (i : Nat) (u : Su), u.Ok → i + d = l.length →
    Ev (fun k => spec_Sketched.l0 k l (i : Int) u.c u.s u.mn u.mx u.h u.r [u.p, u.q]) (suT ((l.drop i).foldl suInsO u)) := by
  induction d with
  | zero =>
    intro i u hu hi;refine Ev.step (fun _ => rfl) ?_;simp only [spec_Sketched.l0];exact ev_neg (by omega) (ev_some (by rw [List.drop_of_length_le (by omega)]; rfl))
  | succ d ih =>
    intro i u hu hi;refine Ev.step (fun _ => rfl) ?_;simp only [spec_Sketched.l0]
    have hil : i < l.length := by omega
    obtain ⟨b1, b2, b3, b4⟩ := su_lens hu;obtain ⟨t, e⟩ := ins_at hu (rd l (i : Int));have hins := spec_insert_ev u.c u.s u.mn u.mx u.h u.r [u.p, u.q] (rd l (i : Int)) b1 b2 b3 b4;rw [e] at hins;refine ev_pos (by omega) (ev_pos (by omega) (Ev.bind hins ?_));rw [wsucc (by omega)];have := ih (i + 1) (suInsO u (rd l (i : Int))) (suInsO_ok hu _) (by omega);rw [List.drop_eq_getElem_cons hil, List.foldl_cons, ← rd_get hil];exact this
theorem spec_sketched_ev (l : List Int) (hl : l.length ≤ 1048576) : Ev (fun k => spec_Sketched.f k l) (suT (suOf l)) := by
  unfold spec_Sketched.f
  refine ev_bind0 rfl ?_
  have := spec_sketched_at l hl l.length 0 Su.new Su.new_ok (by omega)
  exact this
theorem pick_at (l : List Int) (hl : l.length ≤ 281474976702464) (p : Nat) (hp : p ≤ l.length) (r : Int) (xs : List Int) (h0 : 0 < xs.length) (h1 : xs.length ≤ 256) :
    ∃ (v : Int) (q : Nat) (s : Int), spec_l1PickInt.f l p r xs = some (v, (q : Int), s) ∧ q ≤ l.length := by
  obtain ⟨v, q, s, e, hv, hq⟩ := l1Below_is l hl p hp r xs.length h0 h1
  refine ⟨rd xs (v : Int), q, s, ?_, hq⟩
  unfold spec_l1PickInt.f
  rw [e]
  simp only [Option.bind_some]
  rw [if_pos (by omega), if_pos (by omega)]
theorem l3Values_at (l : List Int) (hl : l.length ≤ 281474976702464) (n : Nat) (hn : n ≤ 6) (d : Nat) : ∀ (i p : Nat) (r : Int) (xs : List Int), i + d = n → p ≤ l.length → xs.length = i →
    ∃ (ys : List Int) (q : Nat) (s : Int), Ev (fun k => spec_l3Values.l0 k xs (n : Int) (i : Int) l (p : Int) r) (ys, (q : Int), s) ∧ ys.length = n ∧ q ≤ l.length := by
  induction d with
  | zero =>
    intro i p r xs hi hp hx;refine ⟨xs, p, r, Ev.step (fun _ => rfl) ?_, by omega, hp⟩;simp only [spec_l3Values.l0];exact ev_neg (by omega) (ev_some rfl)
  | succ d ih =>
    intro i p r xs hi hp hx;obtain ⟨v, q, s, e, hv, hq⟩ := l1Byte_is l hl p hp r;obtain ⟨v2, q2, s2, e2, hq2⟩ := pick_at l hl q hq s [0, 1, 7, 8, 100, 5000, 1000000, (v : Int), 1000001, (-1)] (by simp) (by simp);obtain ⟨ys, q3, s3, h3, hy, hq3⟩ := ih (i + 1) q2 s2 (xs ++ [v2]) (by omega) hq2 (by simp; omega);refine ⟨ys, q3, s3, Ev.step (fun _ => rfl) ?_, hy, hq3⟩;simp only [spec_l3Values.l0];refine ev_pos (by omega) (ev_bind0 e (ev_bind0 e2 (ev_pos (by omega) ?_)));rw [wsucc (by omega)];exact h3
theorem once_at (l : List Int) (hl : l.length ≤ 281474976702464) (p : Nat) (hp : p ≤ l.length) (r : Int) (n : Nat) (h0 : 0 < n) (h1 : n ≤ 256) :
    ∃ (b : Bool) (q : Nat) (s : Int), spec_l1Once.f l p r (n : Int) = some (b, (q : Int), s) ∧ q ≤ l.length := by
  obtain ⟨v, q, s, e, hv, hq⟩ := l1Below_is l hl p hp r n h0 h1
  refine ⟨((v : Int) == 0), q, s, ?_, hq⟩
  unfold spec_l1Once.f
  rw [e]
  rfl
theorem l3Values_ev (l : List Int) (hl : l.length ≤ 281474976702464) (p : Nat) (hp : p ≤ l.length) (r : Int) :
    ∃ (ys : List Int) (q : Nat) (s : Int), Ev (fun k => spec_l3Values.f k l (p : Int) r) (ys, (q : Int), s) ∧ ys.length ≤ 5 ∧ q ≤ l.length := by
  obtain ⟨n, q, s1, e1, hn, hq⟩ := l1Below_is l hl p hp r 6 (by omega) (by omega)
  obtain ⟨ys, q3, s3, h3, hy, hq3⟩ := l3Values_at l hl n (by omega) n 0 q s1 [] (by omega) hq rfl
  refine ⟨ys, q3, s3, ?_, by omega, hq3⟩
  unfold spec_l3Values.f
  exact ev_bind0 e1 h3
theorem l3Right_ev (l : List Int) (hl : l.length ≤ 281474976702464) (p : Nat) (hp : p ≤ l.length) (r : Int) :
    ∃ (c s mn mx : Int) (h g a b : List Int) (q : Nat) (z : Int), Ev (fun k => spec_l3Right.f k l (p : Int) r) (c, s, mn, mx, h, g, [a, b], (q : Int), z) ∧ h.length = 8 ∧ g.length = 8 ∧ a.length = 4 ∧ b.length = 4 ∧ q ≤ l.length := by
  obtain ⟨ys, q1, s1, h1, hy, hq1⟩ := l3Values_ev l hl p hp r
  obtain ⟨o, q2, s2, h2, hq2⟩ := once_at l hl q1 hq1 s1 16 (by omega) (by omega)
  obtain ⟨v, q3, s3, h3, _, hq3⟩ := l1Below_is l hl q2 hq2 s2 2 (by omega) (by omega)
  have ok := suOf_ok ys
  have hs := spec_sketched_ev ys (by omega)
  have l8 := ok.hh.1
  cases o with
  | false =>
    refine ⟨(suOf ys).c, (suOf ys).s, (suOf ys).mn, (suOf ys).mx, (suOf ys).h, (suOf ys).r, (suOf ys).p, (suOf ys).q, q2, s2, ?_, l8, ok.hr.1, ok.hp.1, ok.hq.1, hq2⟩;unfold spec_l3Right.f;exact Ev.bind h1 (Ev.bind hs (ev_bind0 h2 (ev_neg (by simp) (ev_some rfl))))
  | true =>
    by_cases hc : (suOf ys).c > 0
    · refine ⟨wrap64 (1000000000 - (v : Int)), 999999997, (suOf ys).mn, (suOf ys).mx, (suOf ys).h.set 3 1000000000, (suOf ys).r, (suOf ys).p, (suOf ys).q, q3, s3, ?_, ?_, ok.hr.1, ok.hp.1, ok.hq.1, hq3⟩
      · unfold spec_l3Right.f
        exact Ev.bind h1 (Ev.bind hs (ev_bind0 h2 (ev_pos rfl (ev_pos hc (ev_bind0 h3 (ev_pos (by simp only [suT]; omega) (ev_some rfl)))))))
      · rw [List.length_set]
        exact l8
    · refine ⟨(suOf ys).c, (suOf ys).s, (suOf ys).mn, (suOf ys).mx, (suOf ys).h, (suOf ys).r, (suOf ys).p, (suOf ys).q, q2, s2, ?_, l8, ok.hr.1, ok.hp.1, ok.hq.1, hq2⟩
      unfold spec_l3Right.f;exact Ev.bind h1 (Ev.bind hs (ev_bind0 h2 (ev_pos rfl (ev_neg hc (ev_some rfl)))))
theorem l3Draw_ev (l : List Int) (hl : l.length ≤ 281474976702464) (p : Nat) (hp : p ≤ l.length) (r : Int) :
    ∃ (c s mn mx : Int) (h g : List Int) (R : List (List Int)) (q : Nat) (z : Int), Ev (fun k => spec_l3Draw.f k l (p : Int) r) (c, s, mn, mx, h, g, R, (q : Int), z) ∧ h.length ≤ 9 ∧ g.length ≤ 9 ∧ R.length ≤ 2 ∧ (∀ x ∈ R, x.length ≤ 9) ∧ q ≤ l.length := by
  obtain ⟨c, s, mn, mx, h, g, a, b, q1, s1, h1, lh, lg, la, lb, hq1⟩ := l3Right_ev l hl p hp r
  obtain ⟨v, q2, s2, h2, hv, hq2⟩ := l1Below_is l hl q1 hq1 s1 16 (by omega) (by omega)
  have hR : ∀ x ∈ [a, b], x.length ≤ 9 := fun x hx => by
    simp only [List.mem_cons, List.not_mem_nil, or_false] at hx
    rcases hx with rfl | rfl <;> omega
  by_cases v0 : (v : Int) = 0
  · obtain ⟨x, q3, s3, h3, hq3⟩ := pick_at l hl q2 hq2 s2 [(-1), 1000001, 500] (by simp) (by simp)
    refine ⟨c, s, x, mx, h, g, [a, b], q3, s3, ?_, show h.length ≤ 9 by omega, show g.length ≤ 9 by omega, show [a, b].length ≤ 2 by simp, hR, hq3⟩;unfold spec_l3Draw.f;exact Ev.bind h1 (ev_bind0 h2 (ev_pos v0 (ev_bind0 h3 (ev_some rfl))))
  by_cases v1 : (v : Int) = 1
  · obtain ⟨y, q3, s3, h3, hy, hq3⟩ := l1Below_is l hl q2 hq2 s2 8 (by omega) (by omega)
    obtain ⟨x, q4, s4, h4, hq4⟩ := pick_at l hl q3 hq3 s3 [(-1), 17, 18] (by simp) (by simp);refine ⟨c, s, mn, mx, h, g.set y x, [a, b], q4, s4, ?_, show h.length ≤ 9 by omega, show (g.set y x).length ≤ 9 by rw [List.length_set]; omega, show [a, b].length ≤ 2 by simp, hR, hq4⟩;unfold spec_l3Draw.f;exact Ev.bind h1 (ev_bind0 h2 (ev_neg v0 (ev_pos v1 (ev_bind0 h3 (ev_bind0 h4 (ev_pos (by omega) (ev_pos (show (y : Int) < (g.length : Int) by omega) (ev_some rfl))))))))
  by_cases v2 : (v : Int) = 2
  · refine ⟨c, s, mn, mx, h ++ [0], g, [a, b], q2, s2, ?_, show (h ++ [0]).length ≤ 9 by simp; omega, show g.length ≤ 9 by omega, show [a, b].length ≤ 2 by simp, hR, hq2⟩
    unfold spec_l3Draw.f;exact Ev.bind h1 (ev_bind0 h2 (ev_neg v0 (ev_neg v1 (ev_pos v2 (ev_pos (show h.length < 17592186044416 by omega) (ev_some rfl))))))
  by_cases v3 : (v : Int) = 3
  · refine ⟨c, s, mn, mx, h, g, [a, b].take 1, q2, s2, ?_, show h.length ≤ 9 by omega, show g.length ≤ 9 by omega, show ([a, b].take 1).length ≤ 2 by simp, fun x hx => hR x (List.mem_of_mem_take hx), hq2⟩
    unfold spec_l3Draw.f;exact Ev.bind h1 (ev_bind0 h2 (ev_neg v0 (ev_neg v1 (ev_neg v2 (ev_pos v3 (ev_pos (by simp) (ev_some rfl)))))))
  by_cases v4 : (v : Int) = 4
  · obtain ⟨x, q3, s3, h3, hq3⟩ := pick_at l hl q2 hq2 s2 [0, (-1), 1000000001] (by simp) (by simp)
    refine ⟨x, s, mn, mx, h, g, [a, b], q3, s3, ?_, show h.length ≤ 9 by omega, show g.length ≤ 9 by omega, show [a, b].length ≤ 2 by simp, hR, hq3⟩;unfold spec_l3Draw.f;exact Ev.bind h1 (ev_bind0 h2 (ev_neg v0 (ev_neg v1 (ev_neg v2 (ev_neg v3 (ev_pos v4 (ev_bind0 h3 (ev_some rfl))))))))
  by_cases v5 : (v : Int) = 5
  · obtain ⟨x, q3, s3, h3, hq3⟩ := pick_at l hl q2 hq2 s2 [(-1), 3, 1000000001] (by simp) (by simp)
    refine ⟨c, s, mn, mx, h, g, [a, b].set 1 (b.set 2 x), q3, s3, ?_, show h.length ≤ 9 by omega, show g.length ≤ 9 by omega, show ([a, b].set 1 (b.set 2 x)).length ≤ 2 by simp, fun y hy => ?_, hq3⟩
    · unfold spec_l3Draw.f
      exact Ev.bind h1 (ev_bind0 h2 (ev_neg v0 (ev_neg v1 (ev_neg v2 (ev_neg v3 (ev_neg v4 (ev_pos v5 (ev_pos (by simp) (ev_bind0 h3 (ev_pos (show (2 : Int) < (b.length : Int) by omega) (ev_some rfl)))))))))))
    · rcases List.mem_or_eq_of_mem_set hy with hy | rfl
      · exact hR y hy
      · rw [List.length_set]; omega
  · refine ⟨c, s, mn, mx, h, g, [a, b], q2, s2, ?_, show h.length ≤ 9 by omega, show g.length ≤ 9 by omega, show [a, b].length ≤ 2 by simp, hR, hq2⟩
    unfold spec_l3Draw.f;exact Ev.bind h1 (ev_bind0 h2 (ev_neg v0 (ev_neg v1 (ev_neg v2 (ev_neg v3 (ev_neg v4 (ev_neg v5 (ev_some rfl))))))))
theorem l6Right_ev (l : List Int) (hl : l.length ≤ 281474976702464) (p : Nat) (hp : p ≤ l.length) (r : Int) :
    ∃ (sq cl ke wi c s mn mx : Int) (h g : List Int) (R : List (List Int)) (q : Nat) (z : Int), Ev (fun k => spec_l6Right.f k l (p : Int) r) (sq, cl, ke, wi, c, s, mn, mx, h, g, R, (q : Int), z) ∧ h.length ≤ 9 ∧ g.length ≤ 9 ∧ R.length ≤ 2 ∧ (∀ x ∈ R, x.length ≤ 9) ∧ q ≤ l.length := by
  obtain ⟨v1, q1, s1, e1, _, hq1⟩ := l1Below_is l hl p hp r 8 (by omega) (by omega)
  obtain ⟨v2, q2, s2, e2, _, hq2⟩ := l1Below_is l hl q1 hq1 s1 2 (by omega) (by omega)
  obtain ⟨v3, q3, s3, e3, _, hq3⟩ := l1Below_is l hl q2 hq2 s2 2 (by omega) (by omega)
  obtain ⟨v4, q4, s4, e4, _, hq4⟩ := l1Below_is l hl q3 hq3 s3 3 (by omega) (by omega)
  obtain ⟨ys, q5, s5, h5, hy, hq5⟩ := l3Values_ev l hl q4 hq4 s4
  have ok := suOf_ok ys
  have hs := spec_sketched_ev ys (by omega)
  have k1 := ok.hh.1
  have k2 := ok.hr.1
  have k3 := ok.hp.1
  have k4 := ok.hq.1
  refine ⟨wrap64 (1 + (v1 : Int)), v2, v3, v4, (suOf ys).c, (suOf ys).s, (suOf ys).mn, (suOf ys).mx, (suOf ys).h, (suOf ys).r, [(suOf ys).p, (suOf ys).q], q5, s5, ?_, by omega, by omega, by simp, fun x hx => ?_, hq5⟩
  · unfold spec_l6Right.f
    exact ev_bind0 e1 (ev_bind0 e2 (ev_bind0 e3 (ev_bind0 e4 (Ev.bind h5 (Ev.bind hs (ev_some rfl))))))
  · simp only [List.mem_cons, List.not_mem_nil, or_false] at hx
    rcases hx with rfl | rfl <;> omega
theorem l6Draw_ev (l : List Int) (hl : l.length ≤ 281474976702464) (p : Nat) (hp : p ≤ l.length) (r : Int) :
    ∃ (sq cl ke wi c s mn mx : Int) (h g : List Int) (R : List (List Int)) (q : Nat) (z : Int), Ev (fun k => spec_l6Draw.f k l (p : Int) r) (sq, cl, ke, wi, c, s, mn, mx, h, g, R, (q : Int), z) ∧ h.length ≤ 9 ∧ g.length ≤ 9 ∧ R.length ≤ 2 ∧ (∀ x ∈ R, x.length ≤ 9) ∧ q ≤ l.length := by
  obtain ⟨sq, cl, ke, wi, c, s, mn, mx, h, g, R, q1, s1, h1, b1, b2, b3, b4, hq1⟩ := l6Right_ev l hl p hp r
  obtain ⟨v, q2, s2, h2, hv, hq2⟩ := l1Below_is l hl q1 hq1 s1 14 (by omega) (by omega)
  by_cases v0 : (v : Int) = 0
  · obtain ⟨x, q3, s3, h3, hq3⟩ := pick_at l hl q2 hq2 s2 [0, 60, 61, (-1)] (by simp) (by simp)
    refine ⟨x, cl, ke, wi, c, s, mn, mx, h, g, R, q3, s3, ?_, b1, b2, b3, b4, hq3⟩;unfold spec_l6Draw.f;exact Ev.bind h1 (ev_bind0 h2 (ev_pos v0 (ev_bind0 h3 (ev_some rfl))))
  by_cases v1 : (v : Int) = 1
  · obtain ⟨x, q3, s3, h3, hq3⟩ := pick_at l hl q2 hq2 s2 [(-1), 2] (by simp) (by simp)
    refine ⟨sq, x, ke, wi, c, s, mn, mx, h, g, R, q3, s3, ?_, b1, b2, b3, b4, hq3⟩;unfold spec_l6Draw.f;exact Ev.bind h1 (ev_bind0 h2 (ev_neg v0 (ev_pos v1 (ev_bind0 h3 (ev_some rfl)))))
  by_cases v2 : (v : Int) = 2
  · obtain ⟨x, q3, s3, h3, hq3⟩ := pick_at l hl q2 hq2 s2 [(-1), 4, 5] (by simp) (by simp)
    refine ⟨sq, cl, x, wi, c, s, mn, mx, h, g, R, q3, s3, ?_, b1, b2, b3, b4, hq3⟩;unfold spec_l6Draw.f;exact Ev.bind h1 (ev_bind0 h2 (ev_neg v0 (ev_neg v1 (ev_pos v2 (ev_bind0 h3 (ev_some rfl))))))
  by_cases v3 : (v : Int) = 3
  · obtain ⟨x, q3, s3, h3, hq3⟩ := pick_at l hl q2 hq2 s2 [(-1), 20, 21] (by simp) (by simp)
    refine ⟨sq, cl, ke, x, c, s, mn, mx, h, g, R, q3, s3, ?_, b1, b2, b3, b4, hq3⟩;unfold spec_l6Draw.f;exact Ev.bind h1 (ev_bind0 h2 (ev_neg v0 (ev_neg v1 (ev_neg v2 (ev_pos v3 (ev_bind0 h3 (ev_some rfl)))))))
  by_cases v4 : (v : Int) = 4
  · obtain ⟨c', s', mn', mx', h', g', R', q3, s3, h3, d1, d2, d3, d4, hq3⟩ := l3Draw_ev l hl q2 hq2 s2
    refine ⟨sq, cl, ke, wi, c', s', mn', mx', h', g', R', q3, s3, ?_, d1, d2, d3, d4, hq3⟩;unfold spec_l6Draw.f;exact Ev.bind h1 (ev_bind0 h2 (ev_neg v0 (ev_neg v1 (ev_neg v2 (ev_neg v3 (ev_pos v4 (Ev.bind h3 (ev_some rfl))))))))
  · refine ⟨sq, cl, ke, wi, c, s, mn, mx, h, g, R, q2, s2, ?_, b1, b2, b3, b4, hq2⟩
    unfold spec_l6Draw.f;exact Ev.bind h1 (ev_bind0 h2 (ev_neg v0 (ev_neg v1 (ev_neg v2 (ev_neg v3 (ev_neg v4 (ev_some rfl)))))))
theorem impl_copy_at (c s lo hi : Int) (h r : List Int) (R : List (List Int)) (hR : R.length ≤ 1048576) (hx : ∀ x ∈ R, x.length ≤ 1048576) (d : Nat) : ∀ i : Nat, i + d = R.length →
    Ev (fun k => impl_copySketch.l0 k R (R.length : Int) (i : Int) c s lo hi h r (R.take i)) (c, s, lo, hi, h, r, R) := by
  induction d with
  | zero =>
    intro i hi';refine Ev.step (fun _ => rfl) ?_;simp only [impl_copySketch.l0];exact ev_neg (by omega) (ev_some (by rw [show i = R.length by omega, List.take_length]))
  | succ d ih =>
    intro i hi';refine Ev.step (fun _ => rfl) ?_;simp only [impl_copySketch.l0]
    have hiR : i < R.length := by omega
    have hl := hx _ (List.getElem_mem hiR);rw [wsucc (by omega), rdR_get hiR];refine ev_pos (by omega) (ev_pos (by omega) (ev_pos (by omega) (ev_bind0 (a := R[i]) (by unfold impl_copyInts.f; rw [if_pos (by simp; omega), List.nil_append]) (ev_pos (by simp; omega) ?_))));rw [← List.take_succ_eq_append_getElem hiR];exact ih (i + 1) (by omega)
theorem impl_copy_ev (c s lo hi : Int) (h r : List Int) (R : List (List Int)) (hh : h.length ≤ 1048576) (hr : r.length ≤ 1048576) (hR : R.length ≤ 1048576) (hx : ∀ x ∈ R, x.length ≤ 1048576) :
    Ev (fun k => impl_copySketch.f k c s lo hi h r R) (c, s, lo, hi, h, r, R) := by
  unfold impl_copySketch.f
  refine ev_bind0 (a := h) (by unfold impl_copyInts.f; rw [if_pos (by simp; omega), List.nil_append]) (ev_bind0 (a := r) (by unfold impl_copyInts.f; rw [if_pos (by simp; omega), List.nil_append]) ?_)
  have := impl_copy_at c s lo hi h r R hR hx R.length 0 (by omega)
  simpa using this
def sameL {α : Type} (eq : α → α → Bool) : List α → List α → Bool
  | [], [] => true
  | x :: xs, y :: ys => eq x y && sameL eq xs ys
  | [], _ :: _ => false
  | _ :: _, [] => false
theorem sameL_len {α : Type} (eq : α → α → Bool) : ∀ a b : List α, a.length ≠ b.length → sameL eq a b = false
  | [], [], h => absurd rfl h
  | _ :: xs, _ :: ys, h => by
    have := sameL_len eq xs ys (by simpa using h)
    simp [sameL, this]
  | [], _ :: _, _ => rfl
  | _ :: _, [], _ => rfl
theorem sameL_at {α : Type} (eq : α → α → Bool) (a b : List α) (i : Nat) (h : i < a.length) (h1 : i < b.length) :
    sameL eq (a.drop i) (b.drop i) = (eq a[i] b[i] && sameL eq (a.drop (i + 1)) (b.drop (i + 1))) := by
  rw [List.drop_eq_getElem_cons h, List.drop_eq_getElem_cons h1]
  rfl
theorem sameL_end {α : Type} (eq : α → α → Bool) (a b : List α) (i : Nat) (h : a.length ≤ i) (h1 : b.length ≤ i) : sameL eq (a.drop i) (b.drop i) = true := by
  rw [List.drop_eq_nil_of_le h, List.drop_eq_nil_of_le h1]
  rfl
def eqI (x y : Int) : Bool := decide (x = y)
theorem slices_Equal_at (a b : List Int) (hn : a.length ≤ 1048576) (hl : a.length = b.length) (d : Nat) : ∀ (i : Nat), i + d = a.length →
    Ev (fun k => slices_Equal_int_int.l0 k a b (a.length : Int) (i : Int)) (sameL eqI (a.drop i) (b.drop i)) := by
  induction d with
  | zero =>
    intro i hi;refine Ev.step (fun _ => rfl) ?_;simp only [slices_Equal_int_int.l0];exact ev_neg (by omega) (ev_some (sameL_end eqI a b i (by omega) (by omega)).symm)
  | succ d ih =>
    intro i hi;refine Ev.step (fun _ => rfl) ?_;simp only [slices_Equal_int_int.l0];rw [sameL_at eqI a b i (by omega) (by omega), rd_get (show i < a.length by omega), rd_get (show i < b.length by omega), wsucc (by omega)];refine ev_pos (by omega) (ev_pos (by omega) (ev_pos (by omega) (ev_pos (by omega) ?_)))
    by_cases e : a[i]'(by omega) = b[i]'(by omega)
    · refine ev_pos e ?_
      rw [show eqI (a[i]'(by omega)) (b[i]'(by omega)) = true from decide_eq_true e, Bool.true_and];exact ih (i + 1) (by omega)
    · refine ev_neg e (ev_some ?_)
      rw [show eqI (a[i]'(by omega)) (b[i]'(by omega)) = false from decide_eq_false e, Bool.false_and]
theorem slices_Equal_ev (a b : List Int) (hn : a.length ≤ 1048576) : Ev (fun k => slices_Equal_int_int.f k a b) (sameL eqI a b) := by
  unfold slices_Equal_int_int.f
  by_cases hl : a.length = b.length
  · exact ev_pos (by omega) (slices_Equal_at a b hn hl a.length 0 (by omega))
  · exact ev_neg (by omega) (ev_some (sameL_len eqI a b hl).symm)
theorem slices_EqualFunc_at (a b : List (List Int)) (hx : ∀ x ∈ a, x.length ≤ 1048576) (hl : a.length = b.length) : ∀ (g i : Nat), i ≤ a.length → i + g = a.length + 1 →
    Ev (fun k => slices_EqualFunc_int_int_int_int.l0 g k a b i) (sameL (sameL eqI) (a.drop i) (b.drop i)) := by
  intro g
  induction g with
  | zero =>
    intro i hi0 hi;exact absurd hi (by omega)
  | succ g ih =>
    intro i hi0 hi;simp only [slices_EqualFunc_int_int_int_int.l0]
    by_cases h : i < a.length
    · simp only [dif_pos h, dif_pos (show i < b.length by omega)]
      rw [sameL_at (sameL eqI) a b i h (by omega)];refine Ev.bind (slices_Equal_ev _ _ (hx _ (List.getElem_mem h))) ?_
      cases e : sameL eqI a[i] (b[i]'(by omega)) with
      | true =>
        rw [Bool.true_and];exact ev_pos rfl (ih (i + 1) (by omega) (by omega))
      | false =>
        rw [Bool.false_and];exact ev_neg (by decide) (ev_some rfl)
    · simp only [dif_neg h]
      exact ev_some (sameL_end (sameL eqI) a b i (by omega) (by omega)).symm
theorem slices_EqualFunc_ev (a b : List (List Int)) (hx : ∀ x ∈ a, x.length ≤ 1048576) : Ev (fun k => slices_EqualFunc_int_int_int_int.f k a b) (sameL (sameL eqI) a b) := by
  unfold slices_EqualFunc_int_int_int_int.f
  by_cases hl : a.length = b.length
  · exact ev_pos hl (slices_EqualFunc_at a b hx hl (a.length + 1) 0 (by omega) (by omega))
  · exact ev_neg hl (ev_some (sameL_len (sameL eqI) a b hl).symm)
def skSame (c s mn mx : Int) (h r : List Int) (R : List (List Int)) (c' s' mn' mx' : Int) (h' r' : List Int) (R' : List (List Int)) : Bool :=
  decide (c = c') && (decide (s = s') && (decide (mn = mn') && (decide (mx = mx') && (sameL eqI h h' && (sameL eqI r r' && sameL (sameL eqI) R R')))))
theorem impl_sketchSame_ev (c s mn mx : Int) (h r : List Int) (R : List (List Int)) (c' s' mn' mx' : Int) (h' r' : List Int) (R' : List (List Int)) (hh : h.length ≤ 1048576) (hr : r.length ≤ 1048576) (_hR : R.length ≤ 1048576) (hx : ∀ x ∈ R, x.length ≤ 1048576) :
    Ev (fun k => impl_SketchSame.f k c s mn mx h r R c' s' mn' mx' h' r' R') (skSame c s mn mx h r R c' s' mn' mx' h' r' R') := by
  unfold impl_SketchSame.f skSame
  by_cases e1 : c = c'
  · by_cases e2 : s = s'
    · by_cases e3 : mn = mn'
      · by_cases e4 : mx = mx'
        · refine ev_pos e1 (ev_pos e2 (ev_pos e3 (ev_pos e4 (Ev.bind (slices_Equal_ev _ _ hh) ?_))))
          rw [decide_eq_true e1, decide_eq_true e2, decide_eq_true e3, decide_eq_true e4];simp only [Bool.true_and]
          cases f1 : sameL eqI h h' with
          | false => exact ev_neg (by decide) (ev_some (by simp))
          | true =>
            refine ev_pos rfl (Ev.bind (slices_Equal_ev _ _ hr) ?_);simp only [Bool.true_and]
            cases f2 : sameL eqI r r' with
            | false => exact ev_neg (by decide) (ev_some (by simp))
            | true =>
              refine ev_pos rfl ?_;simp only [Bool.true_and];exact Ev.bind (slices_EqualFunc_ev R R' hx) (ev_some rfl)
        · exact ev_pos e1 (ev_pos e2 (ev_pos e3 (ev_neg e4 (ev_some (by simp [e4])))))
      · exact ev_pos e1 (ev_pos e2 (ev_neg e3 (ev_some (by simp [e3]))))
    · exact ev_pos e1 (ev_neg e2 (ev_some (by simp [e2])))
  · exact ev_neg e1 (ev_some (by simp [e1]))
theorem eqI_self (l : List Int) : sameL eqI l l = true := by
  induction l with
  | nil => rfl
  | cons x xs ih => simp [sameL, eqI, ih]
theorem eqII_self (l : List (List Int)) : sameL (sameL eqI) l l = true := by
  induction l with
  | nil => rfl
  | cons x xs ih => simp [sameL, eqI_self, ih]
theorem idof_same (a b : Int) : spec_IdOf.f a b = impl_IdOf.f a b := by
  unfold spec_IdOf.f impl_IdOf.f spec_l6Agent.f
  have h : ∀ x y z, spec_l1In.f x y z = impl_within.f x y z := fun _ _ _ => rfl
  simp only [h]
  cases impl_within.f a 0 2 <;> simp
theorem idof_some (a b : Int) : ∃ r, impl_IdOf.f a b = some r := by
  unfold impl_IdOf.f impl_within.f
  repeat (first | exact ⟨_, rfl⟩ | (simp only [Option.bind_some]; split) | split)
noncomputable def enV (id sq cl ke wi c s lo hi : Int) (h r : List Int) (R : List (List Int)) : Int × Int × List S70 × Int × Int × Int × Int × List Int × List Int × List (List Int) × Bool :=
  if itemOk sq cl ke wi c s lo hi h r R = true ∧ ¬ id < 0 then (ke, wi, [⟨id, id⟩], c, s, lo, hi, h, r, R, true) else (0, 0, [], 0, 0, 0, 0, [], [], [], false)
theorem impl_entryOf_ev (ag id sq cl ke wi c s lo hi : Int) (h r : List Int) (R : List (List Int)) (hid : impl_IdOf.f ag sq = some id) (hh : h.length ≤ 1048576) (hr : r.length ≤ 1048576) (hR : R.length ≤ 1048576) (hx : ∀ x ∈ R, x.length ≤ 1048576) :
    Ev (fun k => impl_EntryOf.f k ag sq cl ke wi c s lo hi h r R) (enV id sq cl ke wi c s lo hi h r R) := by
  unfold impl_EntryOf.f enV
  refine ev_bind0 hid (Ev.bind (impl_itemOk_ev sq cl ke wi c s lo hi h r R) ?_)
  cases itemOk sq cl ke wi c s lo hi h r R with
  | false =>
    rw [if_neg (by simp)];exact ev_neg (by simp) (ev_some rfl)
  | true =>
    by_cases hi' : id < 0
    · rw [if_neg (fun e => e.2 hi')]
      exact ev_pos (by trivial) (ev_pos hi' (ev_some rfl))
    · rw [if_pos ⟨by trivial, hi'⟩]
      exact ev_pos (by trivial) (ev_neg hi' (Ev.bind (impl_copy_ev c s lo hi h r R hh hr hR hx) (ev_some rfl)))
theorem spec_entryOf_ev (ag id sq cl ke wi c s lo hi : Int) (h r : List Int) (R : List (List Int)) (hid : impl_IdOf.f ag sq = some id) (hh : h.length ≤ 1048576) (hr : r.length ≤ 1048576) (hR : R.length ≤ 1048576) (hx : ∀ x ∈ R, x.length ≤ 1048576) :
    Ev (fun k => spec_EntryOf.f k ag sq cl ke wi c s lo hi h r R) (enV id sq cl ke wi c s lo hi h r R) := by
  unfold spec_EntryOf.f enV
  refine ev_bind0 (by rw [idof_same]; exact hid) (Ev.bind (spec_itemOk_ev sq cl ke wi c s lo hi h r R) ?_)
  cases itemOk sq cl ke wi c s lo hi h r R with
  | false =>
    rw [if_neg (by simp)];exact ev_neg (by simp) (ev_some rfl)
  | true =>
    by_cases hi' : id < 0
    · rw [if_neg (fun e => e.2 hi')]
      exact ev_pos (by trivial) (ev_pos hi' (ev_some rfl))
    · rw [if_pos ⟨by trivial, hi'⟩]
      exact ev_pos (by trivial) (ev_neg hi' (Ev.bind (spec_copy_ev c s lo hi h r R hh hr hR hx) (ev_some rfl)))
theorem drawEntryOf_ev (l : List Int) (hl : l.length ≤ 281474976702464) :
    ∃ (ag sq cl ke wi c s mn mx : Int) (h g : List Int) (R : List (List Int)), Ev (fun k => spec_DrawEntryOf.f k l) (ag, sq, cl, ke, wi, c, s, mn, mx, h, g, R) ∧ h.length ≤ 9 ∧ g.length ≤ 9 ∧ R.length ≤ 2 ∧ (∀ x ∈ R, x.length ≤ 9) := by
  obtain ⟨s0, hs0⟩ := l1New_ev l
  obtain ⟨v, q1, s1, h1, _, hq1⟩ := l1Below_is l hl 0 (by omega) s0 5 (by omega) (by omega)
  obtain ⟨sq, cl, ke, wi, c, s, mn, mx, h, g, R, q2, s2, h2, b1, b2, b3, b4, _⟩ := l6Draw_ev l hl q1 hq1 s1
  refine ⟨wrap64 ((v : Int) - 1), sq, cl, ke, wi, c, s, mn, mx, h, g, R, ?_, b1, b2, b3, b4⟩
  unfold spec_DrawEntryOf.f
  exact Ev.bind hs0 (ev_bind0 h1 (Ev.bind h2 (ev_some rfl)))
theorem drawIdOf_ev (l : List Int) (hl : l.length ≤ 281474976702464) : ∃ (a b : Int), Ev (fun k => spec_DrawIdOf.f k l) (a, b) := by
  obtain ⟨s0, hs0⟩ := l1New_ev l
  obtain ⟨v, q1, s1, h1, _, hq1⟩ := l1Below_is l hl 0 (by omega) s0 5 (by omega) (by omega)
  obtain ⟨x, q2, s2, h2, _⟩ := pick_at l hl q1 hq1 s1 [0, 1, 60, 61, 7] (by simp) (by simp)
  refine ⟨wrap64 ((v : Int) - 1), x, ?_⟩
  unfold spec_DrawIdOf.f
  exact Ev.bind hs0 (ev_bind0 h1 (ev_bind0 h2 (ev_some rfl)))
theorem idof_is {a b id : Int} (h : impl_IdOf.f a b = some id) : id = -1 ∨ (0 ≤ a ∧ a ≤ 2 ∧ 1 ≤ b ∧ b ≤ 60 ∧ id = 100 * a + b) := by
  unfold impl_IdOf.f at h
  rw [within_is, within_is] at h
  simp only [Option.bind_some, decide_eq_true_eq] at h
  by_cases h1 : 0 ≤ a ∧ a ≤ 2
  · rw [if_pos h1] at h
    by_cases h2 : 1 ≤ b ∧ b ≤ 60
    · rw [if_pos h2, w64 (x := 100 * a) (by omega) (by omega), w64 (x := 100 * a + b) (by omega) (by omega)] at h
      injection h with h;exact .inr ⟨h1.1, h1.2, h2.1, h2.2, h.symm⟩
    · rw [if_neg h2] at h
      injection h with h;exact .inl h.symm
  · rw [if_neg h1] at h
    injection h with h;exact .inl h.symm
theorem idof_num {a b id : Int} (h : impl_IdOf.f a b = some id) : NumOk a b id := by
  rcases idof_is h with rfl | ⟨h1, h2, h3, h4, rfl⟩
  · exact .inl (by omega)
  · have d1 : (100 * a + b) / 100 = a := by omega
    have d2 : (100 * a + b) % 100 = b := by omega
    refine .inr ⟨by omega, by rw [d1]; simp, by rw [d2]; simp, ?_, ?_⟩
    · rw [Int.tdiv_eq_ediv_of_nonneg (by omega), w64 (by omega) (by omega)]
      omega
    · rw [Int.tmod_eq_emod_of_nonneg (by omega), w64 (by omega) (by omega)]
      omega
theorem setOk_one {d : Int} (h0 : 0 ≤ d) (h1 : d ≤ 9999) : setOk [⟨d, d⟩] = true := by
  show (if 0 ≤ d ∧ d ≤ 9999 then if d ≤ d ∧ d ≤ 9999 then true else false else false) = true
  rw [if_pos ⟨h0, h1⟩, if_pos ⟨Int.le_refl _, h1⟩]
theorem size_one {d : Int} (h0 : 0 ≤ d) (h1 : d ≤ 9999) : setSize [⟨d, d⟩] = 1 := by
  unfold setSize
  rw [if_pos (setOk_one h0 h1)]
  show wrap64 (0 + d - d + 1) = 1
  rw [w64 (by omega) (by omega)]
  omega
theorem skSame_self (c s mn mx : Int) (h r : List Int) (R : List (List Int)) : skSame c s mn mx h r R c s mn mx h r R = true := by simp [skSame, eqI_self, eqII_self]
theorem items_ev (ag sq cl ke wi c s lo hi d : Int) (h r : List Int) (R : List (List Int)) (hid : impl_IdOf.f ag sq = some d) (hd : ¬ d < 0) (ok : itemOk sq cl ke wi c s lo hi h r R = true) (b1 : h.length ≤ 9) (b2 : r.length ≤ 9) (b3 : R.length ≤ 2) (b4 : ∀ x ∈ R, x.length ≤ 9) :
    ∃ K, ∀ k, K ≤ k → Gi k ag sq cl ke wi c s lo hi h r R [⟨d, d⟩] d := by
  have hd1 : 0 ≤ d ∧ d ≤ 9999 := by rcases idof_is hid with rfl | ⟨_, _, _, _, rfl⟩ <;> omega
  have e1 := impl_entryOk_ev ke wi [⟨d, d⟩] c s lo hi h r R (by simp)
  have e2 := impl_itemOk_ev sq cl ke wi c s lo hi h r R
  have e3 := impl_setSize_ev [⟨d, d⟩] (by simp)
  have e4 := impl_sketchSame_ev c s lo hi h r R c s lo hi h r R (by omega) (by omega) (by omega) (fun x hx => Nat.le_trans (b4 x hx) (by omega))
  rw [ok] at e2
  rw [size_one hd1.1 hd1.2] at e3
  rw [skSame_self] at e4
  have ok2 : entryOk ke wi [⟨d, d⟩] c s lo hi h r R = true := by
    unfold itemOk at ok;simp only [Bool.and_eq_true] at ok;unfold entryOk;simp only [Bool.and_eq_true];exact ⟨ok.2.2.1, ok.2.2.2.1, by simp, setOk_one hd1.1 hd1.2, ok.2.2.2.2⟩
  rw [ok2] at e1
  obtain ⟨K1, e1⟩ := e1
  obtain ⟨K2, e2⟩ := e2
  obtain ⟨K3, e3⟩ := e3
  obtain ⟨K4, e4⟩ := e4
  refine ⟨K1 + K2 + K3 + K4, fun k hk => ⟨e1 k (by omega), e2 k (by omega), e3 k (by omega), hid, ?_, e4 k (by omega)⟩⟩
  show some (List.any _ _) = _
  simp [impl_SetHas.has]
set_option maxHeartbeats 32000000 in
set_option maxRecDepth 100000 in
theorem lawYes (k : Nat) (A : Option Addr) (cp : Nat) (l : List Int) (w : World) (u : Bd w ⟨A, l.length, cp⟩ l) (ag sq cl ke wi c s lo hi a b id d : Int) (l1 : List S70) (h r : List Int) (R : List (List Int))
    (F : Aside0 (Fi k l ag sq cl ke wi c s lo hi h r R ke wi l1 c s lo hi h r R true a b id)) (G : Aside0 (Gi k ag sq cl ke wi c s lo hi h r R l1 d)) (NI : Aside0 (NumOk a b id)) :
    Calls Try.prog 3 #[.slice A l.length cp] w fun e w' => e = .returned (.bool true) ∧ Below w.heap.size w w' := by
  have U0 := Aside0.mk u
  have HB0 := Aside0.mk (Below.refl w.heap.size w)
  clear u
  go_enter Try.func3, Try.ntmps3
  go_wp2_with fail
  refine (big_callD (U0.out.below HB0.out) F.out.B).mono ?_
  rintro e w1 ⟨rfl, hb⟩
  have HB_1 := Aside0.mk (below_step HB0.out hb)
  have Z_2 := Aside0.mk (hb.size)
  clear HB0 hb
  go_wp2_with fail
  refine (drawI_callD k ag sq cl ke wi c s lo hi h r R (U0.out.below HB_1.out) F.out.D).mono ?_
  rintro e w2 ⟨x, y, z, rfl, hs, hb⟩
  have X_3 := Aside0.mk hs
  clear hs
  have HB_4 := Aside0.mk (below_step HB_1.out hb)
  have Z_5 := Aside0.mk (hb.size)
  clear HB_1 hb
  have hal := Aside0.mk (below_alloc (Below.refl _ w2) (.cells #[.int .i64 sq, .int .i64 cl, .int .i64 ke, .int .i64 wi, .int .i64 c, .int .i64 s, .int .i64 lo, .int .i64 hi, .slice x.A x.n x.c, .slice y.A y.n y.c, .slice z.A z.n z.c] 29))
  have X_6 := Aside0.mk (X_3.out.below hal.out)
  have HB_7 := Aside0.mk (below_step HB_4.out hal.out)
  have Z_8 := Aside0.mk (show (w2.alloc (.cells #[.int .i64 sq, .int .i64 cl, .int .i64 ke, .int .i64 wi, .int .i64 c, .int .i64 s, .int .i64 lo, .int .i64 hi, .slice x.A x.n x.c, .slice y.A y.n y.c, .slice z.A z.n z.c] 29)).heap.size = w2.heap.size + 1 by simp)
  have bx_9 := Aside0.mk (Bx.new w2 29 #[.int .i64 sq, .int .i64 cl, .int .i64 ke, .int .i64 wi, .int .i64 c, .int .i64 s, .int .i64 lo, .int .i64 hi, .slice x.A x.n x.c, .slice y.A y.n y.c, .slice z.A z.n z.c])
  clear X_3 HB_4 hal
  obtain ⟨bx9c0, bx9c1, bx9c2, bx9c3, bx9c4, bx9c5, bx9c6, bx9c7, bx9c8, bx9c9, bx9c10⟩ := bx_9.out.cells11
  go_wp2_with fail
  clear bx9c0 bx9c1 bx9c2 bx9c3 bx9c4 bx9c5 bx9c6 bx9c7 bx9c8 bx9c9 bx9c10
  refine (implE_callD k ag sq cl ke wi c s lo hi ke wi c s lo hi l1 h r R true X_6.out F.out.I).mono ?_
  rintro e w3 ⟨q1, x1, y1, z1, a1, b1, rfl, hs, hm, hb⟩
  have E1_11 := Aside0.mk hs
  clear hs
  have Z_12 := Aside0.mk hm
  clear hm
  unfold Made at Z_12
  have X_13 := Aside0.mk (X_6.out.below hb)
  have bx_14 := Aside0.mk (bx_9.out.below hb)
  have HB_15 := Aside0.mk (below_step HB_7.out hb)
  have Z_16 := Aside0.mk (hb.size)
  clear X_6 bx_9 HB_7 hb
  have hal := Aside0.mk (below_alloc (Below.refl _ w3) (.cells #[.int .i64 ke, .int .i64 wi, .slice q1.A q1.n q1.c, .int .i64 c, .int .i64 s, .int .i64 lo, .int .i64 hi, .slice x1.A x1.n x1.c, .slice y1.A y1.n y1.c, .slice z1.A z1.n z1.c] 34))
  have X_17 := Aside0.mk (X_13.out.below hal.out)
  have bx_18 := Aside0.mk (bx_14.out.below hal.out)
  have E1_19 := Aside0.mk (E1_11.out.below hal.out)
  have HB_20 := Aside0.mk (below_step HB_15.out hal.out)
  have Z_21 := Aside0.mk (show (w3.alloc (.cells #[.int .i64 ke, .int .i64 wi, .slice q1.A q1.n q1.c, .int .i64 c, .int .i64 s, .int .i64 lo, .int .i64 hi, .slice x1.A x1.n x1.c, .slice y1.A y1.n y1.c, .slice z1.A z1.n z1.c] 34)).heap.size = w3.heap.size + 1 by simp)
  have be_22 := Aside0.mk (Bx.new w3 34 #[.int .i64 ke, .int .i64 wi, .slice q1.A q1.n q1.c, .int .i64 c, .int .i64 s, .int .i64 lo, .int .i64 hi, .slice x1.A x1.n x1.c, .slice y1.A y1.n y1.c, .slice z1.A z1.n z1.c])
  clear X_13 bx_14 E1_11 HB_15 hal
  obtain ⟨bx22c0, bx22c1, bx22c2, bx22c3, bx22c4, bx22c5, bx22c6, bx22c7, bx22c8, bx22c9, bx22c10⟩ := bx_18.out.cells11
  go_wp2_with fail
  clear bx22c0 bx22c1 bx22c2 bx22c3 bx22c4 bx22c5 bx22c6 bx22c7 bx22c8 bx22c9 bx22c10
  refine (specE_callD k ag sq cl ke wi c s lo hi ke wi c s lo hi l1 h r R true X_17.out F.out.S).mono ?_
  rintro e w4 ⟨q2, x2, y2, z2, a2, b2, rfl, hs, hm, hb⟩
  have W_24 := Aside0.mk hs
  clear hs
  have Z_25 := Aside0.mk hm
  clear hm
  unfold Made at Z_25
  have X_26 := Aside0.mk (X_17.out.below hb)
  have bx_27 := Aside0.mk (bx_18.out.below hb)
  have E1_28 := Aside0.mk (E1_19.out.below hb)
  have be_29 := Aside0.mk (be_22.out.below hb)
  have HB_30 := Aside0.mk (below_step HB_20.out hb)
  have Z_31 := Aside0.mk (hb.size)
  clear X_17 bx_18 E1_19 be_22 HB_20 hb
  have hal := Aside0.mk (below_alloc (Below.refl _ w4) (.cells #[.int .i64 ke, .int .i64 wi, .slice q2.A q2.n q2.c, .int .i64 c, .int .i64 s, .int .i64 lo, .int .i64 hi, .slice x2.A x2.n x2.c, .slice y2.A y2.n y2.c, .slice z2.A z2.n z2.c] 34))
  have X_32 := Aside0.mk (X_26.out.below hal.out)
  have bx_33 := Aside0.mk (bx_27.out.below hal.out)
  have E1_34 := Aside0.mk (E1_28.out.below hal.out)
  have be_35 := Aside0.mk (be_29.out.below hal.out)
  have W_36 := Aside0.mk (W_24.out.below hal.out)
  have HB_37 := Aside0.mk (below_step HB_30.out hal.out)
  have Z_38 := Aside0.mk (show (w4.alloc (.cells #[.int .i64 ke, .int .i64 wi, .slice q2.A q2.n q2.c, .int .i64 c, .int .i64 s, .int .i64 lo, .int .i64 hi, .slice x2.A x2.n x2.c, .slice y2.A y2.n y2.c, .slice z2.A z2.n z2.c] 34)).heap.size = w4.heap.size + 1 by simp)
  have bw_39 := Aside0.mk (Bx.new w4 34 #[.int .i64 ke, .int .i64 wi, .slice q2.A q2.n q2.c, .int .i64 c, .int .i64 s, .int .i64 lo, .int .i64 hi, .slice x2.A x2.n x2.c, .slice y2.A y2.n y2.c, .slice z2.A z2.n z2.c])
  clear X_26 bx_27 E1_28 be_29 W_24 HB_30 hal
  clear W_36 bw_39
  go_wp2_with fail
  refine (drawN_callD k a b (U0.out.below HB_37.out) F.out.N).mono ?_
  rintro e w5 ⟨rfl, hb⟩
  have X_40 := Aside0.mk (X_32.out.below hb)
  have bx_41 := Aside0.mk (bx_33.out.below hb)
  have E1_42 := Aside0.mk (E1_34.out.below hb)
  have be_43 := Aside0.mk (be_35.out.below hb)
  have HB_44 := Aside0.mk (below_step HB_37.out hb)
  have Z_45 := Aside0.mk (hb.size)
  clear X_32 bx_33 E1_34 be_35 HB_37 hb
  go_wp2_with fail
  refine (implId_callD a b id F.out.A).mono ?_
  rintro e w6 ⟨rfl, hb⟩
  have X_46 := Aside0.mk (X_40.out.below hb)
  have bx_47 := Aside0.mk (bx_41.out.below hb)
  have E1_48 := Aside0.mk (E1_42.out.below hb)
  have be_49 := Aside0.mk (be_43.out.below hb)
  have HB_50 := Aside0.mk (below_step HB_44.out hb)
  have Z_51 := Aside0.mk (hb.size)
  clear X_40 bx_41 E1_42 be_43 HB_44 hb
  rcases NI.out with hlt | ⟨hge, hn1, hn2, hdv, hmd⟩
  · skip
    go_wp2_with fail
    refine (specId_callD a b id F.out.C).mono ?_
    rintro e w7 ⟨rfl, hb⟩
    have X_52 := Aside0.mk (X_46.out.below hb);have bx_53 := Aside0.mk (bx_47.out.below hb);have E1_54 := Aside0.mk (E1_48.out.below hb);have be_55 := Aside0.mk (be_49.out.below hb);have HB_56 := Aside0.mk (below_step HB_50.out hb);have Z_57 := Aside0.mk (hb.size);clear X_46 bx_47 E1_48 be_49 HB_50 hb
    go_upto_region 12 with (fail)
    go_upto_region 14 with (fail)
    obtain ⟨be57c0, be57c1, be57c2, be57c3, be57c4, be57c5, be57c6, be57c7, be57c8, be57c9⟩ := be_55.out.cells10;obtain ⟨bx58c0, bx58c1, bx58c2, bx58c3, bx58c4, bx58c5, bx58c6, bx58c7, bx58c8, bx58c9, bx58c10⟩ := bx_53.out.cells11
    go_wp2_with fail
    have X_60 := Aside0.mk (X_52.out.below (below_drew (Below.refl _ w7)));have bx_61 := Aside0.mk (bx_53.out.below (below_drew (Below.refl _ w7)));have E1_62 := Aside0.mk (E1_54.out.below (below_drew (Below.refl _ w7)));have be_63 := Aside0.mk (be_55.out.below (below_drew (Below.refl _ w7)));have HB_64 := Aside0.mk (below_step HB_56.out (below_drew (Below.refl _ w7)));have Z_65 := Aside0.mk (show w7.drew.heap.size = w7.heap.size by simp);clear X_52 bx_53 E1_54 be_55 HB_56
    go_region_held3 (fun w' => w'.cell? ⟨w3.heap.size, 0, none⟩ = some (.int .i64 ke) ∧ w'.cell? ⟨w3.heap.size, 1, none⟩ = some (.int .i64 wi) ∧ w'.cell? ⟨w3.heap.size, 2, none⟩ = some (.slice q1.A q1.n q1.c) ∧ w'.cell? ⟨w3.heap.size, 3, none⟩ = some (.int .i64 c) ∧ w'.cell? ⟨w3.heap.size, 4, none⟩ = some (.int .i64 s) ∧ w'.cell? ⟨w3.heap.size, 5, none⟩ = some (.int .i64 lo) ∧ w'.cell? ⟨w3.heap.size, 6, none⟩ = some (.int .i64 hi) ∧ w'.cell? ⟨w3.heap.size, 7, none⟩ = some (.slice x1.A x1.n x1.c) ∧ w'.cell? ⟨w3.heap.size, 8, none⟩ = some (.slice y1.A y1.n y1.c) ∧ w'.cell? ⟨w3.heap.size, 9, none⟩ = some (.slice z1.A z1.n z1.c) ∧ w'.cell? ⟨w2.heap.size, 0, none⟩ = some (.int .i64 sq) ∧ w'.cell? ⟨w2.heap.size, 1, none⟩ = some (.int .i64 cl) ∧ w'.cell? ⟨w2.heap.size, 2, none⟩ = some (.int .i64 ke) ∧ w'.cell? ⟨w2.heap.size, 3, none⟩ = some (.int .i64 wi) ∧ w'.cell? ⟨w2.heap.size, 4, none⟩ = some (.int .i64 c) ∧ w'.cell? ⟨w2.heap.size, 5, none⟩ = some (.int .i64 s) ∧ w'.cell? ⟨w2.heap.size, 6, none⟩ = some (.int .i64 lo) ∧ w'.cell? ⟨w2.heap.size, 7, none⟩ = some (.int .i64 hi) ∧ w'.cell? ⟨w2.heap.size, 8, none⟩ = some (.slice x.A x.n x.c) ∧ w'.cell? ⟨w2.heap.size, 9, none⟩ = some (.slice y.A y.n y.c) ∧ w'.cell? ⟨w2.heap.size, 10, none⟩ = some (.slice z.A z.n z.c)) (first | go_keep | exact ⟨be71c0, be71c1, be71c2, be71c3, be71c4, be71c5, be71c6, be71c7, be71c8, be71c9, bx72c0, bx72c1, bx72c2, bx72c3, bx72c4, bx72c5, bx72c6, bx72c7, bx72c8, bx72c9, bx72c10⟩ | exact ⟨be79c0, be79c1, be79c2, be79c3, be79c4, be79c5, be79c6, be79c7, be79c8, be79c9, bx80c0, bx80c1, bx80c2, bx80c3, bx80c4, bx80c5, bx80c6, bx80c7, bx80c8, bx80c9, bx80c10⟩ | exact ⟨be87c0, be87c1, be87c2, be87c3, be87c4, be87c5, be87c6, be87c7, be87c8, be87c9, bx88c0, bx88c1, bx88c2, bx88c3, bx88c4, bx88c5, bx88c6, bx88c7, bx88c8, bx88c9, bx88c10⟩ | exact ⟨be95c0, be95c1, be95c2, be95c3, be95c4, be95c5, be95c6, be95c7, be95c8, be95c9, bx96c0, bx96c1, bx96c2, bx96c3, bx96c4, bx96c5, bx96c6, bx96c7, bx96c8, bx96c9, bx96c10⟩ | exact ⟨be103c0, be103c1, be103c2, be103c3, be103c4, be103c5, be103c6, be103c7, be103c8, be103c9, bx104c0, bx104c1, bx104c2, bx104c3, bx104c4, bx104c5, bx104c6, bx104c7, bx104c8, bx104c9, bx104c10⟩ | exact ⟨be111c0, be111c1, be111c2, be111c3, be111c4, be111c5, be111c6, be111c7, be111c8, be111c9, bx112c0, bx112c1, bx112c2, bx112c3, bx112c4, bx112c5, bx112c6, bx112c7, bx112c8, bx112c9, bx112c10⟩) (first | (go_at_call 14; refine (enOk_callD k ke wi c s lo hi true E1_62.out.rd G.out.E).mono ?_; rintro e w8 ⟨rfl, hb⟩; have X_66 := Aside0.mk (X_60.out.below hb); have bx_67 := Aside0.mk (bx_61.out.below hb); have E1_68 := Aside0.mk (E1_62.out.below hb); have be_69 := Aside0.mk (be_63.out.below hb); have HB_70 := Aside0.mk (below_step HB_64.out hb); have Z_71 := Aside0.mk (hb.size); clear X_60 bx_61 E1_62 be_63 HB_64 hb; obtain ⟨be71c0, be71c1, be71c2, be71c3, be71c4, be71c5, be71c6, be71c7, be71c8, be71c9⟩ := be_69.out.cells10; obtain ⟨bx72c0, bx72c1, bx72c2, bx72c3, bx72c4, bx72c5, bx72c6, bx72c7, bx72c8, bx72c9, bx72c10⟩ := bx_67.out.cells11) | (go_at_call 15; refine (itOk_callD k sq cl ke wi c s lo hi true X_66.out G.out.O).mono ?_; rintro e w9 ⟨rfl, hb⟩; have X_74 := Aside0.mk (X_66.out.below hb); have bx_75 := Aside0.mk (bx_67.out.below hb); have E1_76 := Aside0.mk (E1_68.out.below hb); have be_77 := Aside0.mk (be_69.out.below hb); have HB_78 := Aside0.mk (below_step HB_70.out hb); have Z_79 := Aside0.mk (hb.size); clear X_66 bx_67 E1_68 be_69 HB_70 hb; obtain ⟨be79c0, be79c1, be79c2, be79c3, be79c4, be79c5, be79c6, be79c7, be79c8, be79c9⟩ := be_77.out.cells10; obtain ⟨bx80c0, bx80c1, bx80c2, bx80c3, bx80c4, bx80c5, bx80c6, bx80c7, bx80c8, bx80c9, bx80c10⟩ := bx_75.out.cells11) | (go_at_call 16; refine (size_callD k 1 E1_76.out.rd.q G.out.Z).mono ?_; rintro e w10 ⟨rfl, hb⟩; have X_82 := Aside0.mk (X_74.out.below hb); have bx_83 := Aside0.mk (bx_75.out.below hb); have E1_84 := Aside0.mk (E1_76.out.below hb); have be_85 := Aside0.mk (be_77.out.below hb); have HB_86 := Aside0.mk (below_step HB_78.out hb); have Z_87 := Aside0.mk (hb.size); clear X_74 bx_75 E1_76 be_77 HB_78 hb; obtain ⟨be87c0, be87c1, be87c2, be87c3, be87c4, be87c5, be87c6, be87c7, be87c8, be87c9⟩ := be_85.out.cells10; obtain ⟨bx88c0, bx88c1, bx88c2, bx88c3, bx88c4, bx88c5, bx88c6, bx88c7, bx88c8, bx88c9, bx88c10⟩ := bx_83.out.cells11) | (go_at_call 12; refine (implId_callD ag sq d G.out.A).mono ?_; rintro e w11 ⟨rfl, hb⟩; have X_90 := Aside0.mk (X_82.out.below hb); have bx_91 := Aside0.mk (bx_83.out.below hb); have E1_92 := Aside0.mk (E1_84.out.below hb); have be_93 := Aside0.mk (be_85.out.below hb); have HB_94 := Aside0.mk (below_step HB_86.out hb); have Z_95 := Aside0.mk (hb.size); clear X_82 bx_83 E1_84 be_85 HB_86 hb; obtain ⟨be95c0, be95c1, be95c2, be95c3, be95c4, be95c5, be95c6, be95c7, be95c8, be95c9⟩ := be_93.out.cells10; obtain ⟨bx96c0, bx96c1, bx96c2, bx96c3, bx96c4, bx96c5, bx96c6, bx96c7, bx96c8, bx96c9, bx96c10⟩ := bx_91.out.cells11) | (go_at_call 17; refine (has_callD d true E1_92.out.rd.q G.out.H).mono ?_; rintro e w12 ⟨rfl, hb⟩; have X_98 := Aside0.mk (X_90.out.below hb); have bx_99 := Aside0.mk (bx_91.out.below hb); have E1_100 := Aside0.mk (E1_92.out.below hb); have be_101 := Aside0.mk (be_93.out.below hb); have HB_102 := Aside0.mk (below_step HB_94.out hb); have Z_103 := Aside0.mk (hb.size); clear X_90 bx_91 E1_92 be_93 HB_94 hb; obtain ⟨be103c0, be103c1, be103c2, be103c3, be103c4, be103c5, be103c6, be103c7, be103c8, be103c9⟩ := be_101.out.cells10; obtain ⟨bx104c0, bx104c1, bx104c2, bx104c3, bx104c4, bx104c5, bx104c6, bx104c7, bx104c8, bx104c9, bx104c10⟩ := bx_99.out.cells11) | (go_at_call 18; refine (same_callD k c s lo hi c s lo hi true E1_100.out.rd.s X_98.out G.out.M).mono ?_; rintro e w13 ⟨rfl, hb⟩; have X_106 := Aside0.mk (X_98.out.below hb); have bx_107 := Aside0.mk (bx_99.out.below hb); have E1_108 := Aside0.mk (E1_100.out.below hb); have be_109 := Aside0.mk (be_101.out.below hb); have HB_110 := Aside0.mk (below_step HB_102.out hb); have Z_111 := Aside0.mk (hb.size); clear X_98 bx_99 E1_100 be_101 HB_102 hb; obtain ⟨be111c0, be111c1, be111c2, be111c3, be111c4, be111c5, be111c6, be111c7, be111c8, be111c9⟩ := be_109.out.cells10; obtain ⟨bx112c0, bx112c1, bx112c2, bx112c3, bx112c4, bx112c5, bx112c6, bx112c7, bx112c8, bx112c9, bx112c10⟩ := bx_107.out.cells11))
    try clear be111c0 be111c1 be111c2 be111c3 be111c4 be111c5 be111c6 be111c7 be111c8 be111c9 bx112c0 bx112c1 bx112c2 bx112c3 bx112c4 bx112c5 bx112c6 bx112c7 bx112c8 bx112c9 bx112c10
    go_wp2
    go_ret
    exact ⟨rfl, HB_110.out⟩
  · skip
    go_wp2_with fail
    refine (specId_callD a b id F.out.C).mono ?_
    rintro e w7 ⟨rfl, hb⟩
    have X_114 := Aside0.mk (X_46.out.below hb);have bx_115 := Aside0.mk (bx_47.out.below hb);have E1_116 := Aside0.mk (E1_48.out.below hb);have be_117 := Aside0.mk (be_49.out.below hb);have HB_118 := Aside0.mk (below_step HB_50.out hb);have Z_119 := Aside0.mk (hb.size);clear X_46 bx_47 E1_48 be_49 HB_50 hb
    go_upto_region 12 with (fail)
    go_upto_region 14 with (fail)
    obtain ⟨be119c0, be119c1, be119c2, be119c3, be119c4, be119c5, be119c6, be119c7, be119c8, be119c9⟩ := be_117.out.cells10;obtain ⟨bx120c0, bx120c1, bx120c2, bx120c3, bx120c4, bx120c5, bx120c6, bx120c7, bx120c8, bx120c9, bx120c10⟩ := bx_115.out.cells11
    go_wp2_with fail
    have X_122 := Aside0.mk (X_114.out.below (below_drew (Below.refl _ w7)));have bx_123 := Aside0.mk (bx_115.out.below (below_drew (Below.refl _ w7)));have E1_124 := Aside0.mk (E1_116.out.below (below_drew (Below.refl _ w7)));have be_125 := Aside0.mk (be_117.out.below (below_drew (Below.refl _ w7)));have HB_126 := Aside0.mk (below_step HB_118.out (below_drew (Below.refl _ w7)));have Z_127 := Aside0.mk (show w7.drew.heap.size = w7.heap.size by simp);clear X_114 bx_115 E1_116 be_117 HB_118
    go_region_held3 (fun w' => w'.cell? ⟨w3.heap.size, 0, none⟩ = some (.int .i64 ke) ∧ w'.cell? ⟨w3.heap.size, 1, none⟩ = some (.int .i64 wi) ∧ w'.cell? ⟨w3.heap.size, 2, none⟩ = some (.slice q1.A q1.n q1.c) ∧ w'.cell? ⟨w3.heap.size, 3, none⟩ = some (.int .i64 c) ∧ w'.cell? ⟨w3.heap.size, 4, none⟩ = some (.int .i64 s) ∧ w'.cell? ⟨w3.heap.size, 5, none⟩ = some (.int .i64 lo) ∧ w'.cell? ⟨w3.heap.size, 6, none⟩ = some (.int .i64 hi) ∧ w'.cell? ⟨w3.heap.size, 7, none⟩ = some (.slice x1.A x1.n x1.c) ∧ w'.cell? ⟨w3.heap.size, 8, none⟩ = some (.slice y1.A y1.n y1.c) ∧ w'.cell? ⟨w3.heap.size, 9, none⟩ = some (.slice z1.A z1.n z1.c) ∧ w'.cell? ⟨w2.heap.size, 0, none⟩ = some (.int .i64 sq) ∧ w'.cell? ⟨w2.heap.size, 1, none⟩ = some (.int .i64 cl) ∧ w'.cell? ⟨w2.heap.size, 2, none⟩ = some (.int .i64 ke) ∧ w'.cell? ⟨w2.heap.size, 3, none⟩ = some (.int .i64 wi) ∧ w'.cell? ⟨w2.heap.size, 4, none⟩ = some (.int .i64 c) ∧ w'.cell? ⟨w2.heap.size, 5, none⟩ = some (.int .i64 s) ∧ w'.cell? ⟨w2.heap.size, 6, none⟩ = some (.int .i64 lo) ∧ w'.cell? ⟨w2.heap.size, 7, none⟩ = some (.int .i64 hi) ∧ w'.cell? ⟨w2.heap.size, 8, none⟩ = some (.slice x.A x.n x.c) ∧ w'.cell? ⟨w2.heap.size, 9, none⟩ = some (.slice y.A y.n y.c) ∧ w'.cell? ⟨w2.heap.size, 10, none⟩ = some (.slice z.A z.n z.c)) (first | go_keep | exact ⟨be133c0, be133c1, be133c2, be133c3, be133c4, be133c5, be133c6, be133c7, be133c8, be133c9, bx134c0, bx134c1, bx134c2, bx134c3, bx134c4, bx134c5, bx134c6, bx134c7, bx134c8, bx134c9, bx134c10⟩ | exact ⟨be141c0, be141c1, be141c2, be141c3, be141c4, be141c5, be141c6, be141c7, be141c8, be141c9, bx142c0, bx142c1, bx142c2, bx142c3, bx142c4, bx142c5, bx142c6, bx142c7, bx142c8, bx142c9, bx142c10⟩ | exact ⟨be149c0, be149c1, be149c2, be149c3, be149c4, be149c5, be149c6, be149c7, be149c8, be149c9, bx150c0, bx150c1, bx150c2, bx150c3, bx150c4, bx150c5, bx150c6, bx150c7, bx150c8, bx150c9, bx150c10⟩ | exact ⟨be157c0, be157c1, be157c2, be157c3, be157c4, be157c5, be157c6, be157c7, be157c8, be157c9, bx158c0, bx158c1, bx158c2, bx158c3, bx158c4, bx158c5, bx158c6, bx158c7, bx158c8, bx158c9, bx158c10⟩ | exact ⟨be165c0, be165c1, be165c2, be165c3, be165c4, be165c5, be165c6, be165c7, be165c8, be165c9, bx166c0, bx166c1, bx166c2, bx166c3, bx166c4, bx166c5, bx166c6, bx166c7, bx166c8, bx166c9, bx166c10⟩ | exact ⟨be173c0, be173c1, be173c2, be173c3, be173c4, be173c5, be173c6, be173c7, be173c8, be173c9, bx174c0, bx174c1, bx174c2, bx174c3, bx174c4, bx174c5, bx174c6, bx174c7, bx174c8, bx174c9, bx174c10⟩) (first | (go_at_call 14; refine (enOk_callD k ke wi c s lo hi true E1_124.out.rd G.out.E).mono ?_; rintro e w8 ⟨rfl, hb⟩; have X_128 := Aside0.mk (X_122.out.below hb); have bx_129 := Aside0.mk (bx_123.out.below hb); have E1_130 := Aside0.mk (E1_124.out.below hb); have be_131 := Aside0.mk (be_125.out.below hb); have HB_132 := Aside0.mk (below_step HB_126.out hb); have Z_133 := Aside0.mk (hb.size); clear X_122 bx_123 E1_124 be_125 HB_126 hb; obtain ⟨be133c0, be133c1, be133c2, be133c3, be133c4, be133c5, be133c6, be133c7, be133c8, be133c9⟩ := be_131.out.cells10; obtain ⟨bx134c0, bx134c1, bx134c2, bx134c3, bx134c4, bx134c5, bx134c6, bx134c7, bx134c8, bx134c9, bx134c10⟩ := bx_129.out.cells11) | (go_at_call 15; refine (itOk_callD k sq cl ke wi c s lo hi true X_128.out G.out.O).mono ?_; rintro e w9 ⟨rfl, hb⟩; have X_136 := Aside0.mk (X_128.out.below hb); have bx_137 := Aside0.mk (bx_129.out.below hb); have E1_138 := Aside0.mk (E1_130.out.below hb); have be_139 := Aside0.mk (be_131.out.below hb); have HB_140 := Aside0.mk (below_step HB_132.out hb); have Z_141 := Aside0.mk (hb.size); clear X_128 bx_129 E1_130 be_131 HB_132 hb; obtain ⟨be141c0, be141c1, be141c2, be141c3, be141c4, be141c5, be141c6, be141c7, be141c8, be141c9⟩ := be_139.out.cells10; obtain ⟨bx142c0, bx142c1, bx142c2, bx142c3, bx142c4, bx142c5, bx142c6, bx142c7, bx142c8, bx142c9, bx142c10⟩ := bx_137.out.cells11) | (go_at_call 16; refine (size_callD k 1 E1_138.out.rd.q G.out.Z).mono ?_; rintro e w10 ⟨rfl, hb⟩; have X_144 := Aside0.mk (X_136.out.below hb); have bx_145 := Aside0.mk (bx_137.out.below hb); have E1_146 := Aside0.mk (E1_138.out.below hb); have be_147 := Aside0.mk (be_139.out.below hb); have HB_148 := Aside0.mk (below_step HB_140.out hb); have Z_149 := Aside0.mk (hb.size); clear X_136 bx_137 E1_138 be_139 HB_140 hb; obtain ⟨be149c0, be149c1, be149c2, be149c3, be149c4, be149c5, be149c6, be149c7, be149c8, be149c9⟩ := be_147.out.cells10; obtain ⟨bx150c0, bx150c1, bx150c2, bx150c3, bx150c4, bx150c5, bx150c6, bx150c7, bx150c8, bx150c9, bx150c10⟩ := bx_145.out.cells11) | (go_at_call 12; refine (implId_callD ag sq d G.out.A).mono ?_; rintro e w11 ⟨rfl, hb⟩; have X_152 := Aside0.mk (X_144.out.below hb); have bx_153 := Aside0.mk (bx_145.out.below hb); have E1_154 := Aside0.mk (E1_146.out.below hb); have be_155 := Aside0.mk (be_147.out.below hb); have HB_156 := Aside0.mk (below_step HB_148.out hb); have Z_157 := Aside0.mk (hb.size); clear X_144 bx_145 E1_146 be_147 HB_148 hb; obtain ⟨be157c0, be157c1, be157c2, be157c3, be157c4, be157c5, be157c6, be157c7, be157c8, be157c9⟩ := be_155.out.cells10; obtain ⟨bx158c0, bx158c1, bx158c2, bx158c3, bx158c4, bx158c5, bx158c6, bx158c7, bx158c8, bx158c9, bx158c10⟩ := bx_153.out.cells11) | (go_at_call 17; refine (has_callD d true E1_154.out.rd.q G.out.H).mono ?_; rintro e w12 ⟨rfl, hb⟩; have X_160 := Aside0.mk (X_152.out.below hb); have bx_161 := Aside0.mk (bx_153.out.below hb); have E1_162 := Aside0.mk (E1_154.out.below hb); have be_163 := Aside0.mk (be_155.out.below hb); have HB_164 := Aside0.mk (below_step HB_156.out hb); have Z_165 := Aside0.mk (hb.size); clear X_152 bx_153 E1_154 be_155 HB_156 hb; obtain ⟨be165c0, be165c1, be165c2, be165c3, be165c4, be165c5, be165c6, be165c7, be165c8, be165c9⟩ := be_163.out.cells10; obtain ⟨bx166c0, bx166c1, bx166c2, bx166c3, bx166c4, bx166c5, bx166c6, bx166c7, bx166c8, bx166c9, bx166c10⟩ := bx_161.out.cells11) | (go_at_call 18; refine (same_callD k c s lo hi c s lo hi true E1_162.out.rd.s X_160.out G.out.M).mono ?_; rintro e w13 ⟨rfl, hb⟩; have X_168 := Aside0.mk (X_160.out.below hb); have bx_169 := Aside0.mk (bx_161.out.below hb); have E1_170 := Aside0.mk (E1_162.out.below hb); have be_171 := Aside0.mk (be_163.out.below hb); have HB_172 := Aside0.mk (below_step HB_164.out hb); have Z_173 := Aside0.mk (hb.size); clear X_160 bx_161 E1_162 be_163 HB_164 hb; obtain ⟨be173c0, be173c1, be173c2, be173c3, be173c4, be173c5, be173c6, be173c7, be173c8, be173c9⟩ := be_171.out.cells10; obtain ⟨bx174c0, bx174c1, bx174c2, bx174c3, bx174c4, bx174c5, bx174c6, bx174c7, bx174c8, bx174c9, bx174c10⟩ := bx_169.out.cells11))
    try clear be173c0 be173c1 be173c2 be173c3 be173c4 be173c5 be173c6 be173c7 be173c8 be173c9 bx174c0 bx174c1 bx174c2 bx174c3 bx174c4 bx174c5 bx174c6 bx174c7 bx174c8 bx174c9 bx174c10
    go_wp2
    go_ret
    exact ⟨rfl, HB_172.out⟩

set_option maxHeartbeats 32000000 in
set_option maxRecDepth 100000 in
theorem lawNo (k : Nat) (A : Option Addr) (cp : Nat) (l : List Int) (w : World) (u : Bd w ⟨A, l.length, cp⟩ l) (ag sq cl ke wi c s lo hi a b id : Int) (h r : List Int) (R : List (List Int))
    (F : Aside0 (Fi k l ag sq cl ke wi c s lo hi h r R 0 0 [] 0 0 0 0 [] [] [] false a b id)) (NI : Aside0 (NumOk a b id)) :
    Calls Try.prog 3 #[.slice A l.length cp] w fun e w' => e = .returned (.bool true) ∧ Below w.heap.size w w' := by
  have U0 := Aside0.mk u
  have HB0 := Aside0.mk (Below.refl w.heap.size w)
  clear u
  go_enter Try.func3, Try.ntmps3
  go_wp2_with fail
  refine (big_callD (U0.out.below HB0.out) F.out.B).mono ?_
  rintro e w1 ⟨rfl, hb⟩
  have HB_1 := Aside0.mk (below_step HB0.out hb)
  have Z_2 := Aside0.mk (hb.size)
  clear HB0 hb
  go_wp2_with fail
  refine (drawI_callD k ag sq cl ke wi c s lo hi h r R (U0.out.below HB_1.out) F.out.D).mono ?_
  rintro e w2 ⟨x, y, z, rfl, hs, hb⟩
  have X_3 := Aside0.mk hs
  clear hs
  have HB_4 := Aside0.mk (below_step HB_1.out hb)
  have Z_5 := Aside0.mk (hb.size)
  clear HB_1 hb
  have hal := Aside0.mk (below_alloc (Below.refl _ w2) (.cells #[.int .i64 sq, .int .i64 cl, .int .i64 ke, .int .i64 wi, .int .i64 c, .int .i64 s, .int .i64 lo, .int .i64 hi, .slice x.A x.n x.c, .slice y.A y.n y.c, .slice z.A z.n z.c] 29))
  have X_6 := Aside0.mk (X_3.out.below hal.out)
  have HB_7 := Aside0.mk (below_step HB_4.out hal.out)
  have Z_8 := Aside0.mk (show (w2.alloc (.cells #[.int .i64 sq, .int .i64 cl, .int .i64 ke, .int .i64 wi, .int .i64 c, .int .i64 s, .int .i64 lo, .int .i64 hi, .slice x.A x.n x.c, .slice y.A y.n y.c, .slice z.A z.n z.c] 29)).heap.size = w2.heap.size + 1 by simp)
  have bx_9 := Aside0.mk (Bx.new w2 29 #[.int .i64 sq, .int .i64 cl, .int .i64 ke, .int .i64 wi, .int .i64 c, .int .i64 s, .int .i64 lo, .int .i64 hi, .slice x.A x.n x.c, .slice y.A y.n y.c, .slice z.A z.n z.c])
  clear X_3 HB_4 hal
  obtain ⟨bx9c0, bx9c1, bx9c2, bx9c3, bx9c4, bx9c5, bx9c6, bx9c7, bx9c8, bx9c9, bx9c10⟩ := bx_9.out.cells11
  go_wp2_with fail
  clear bx9c0 bx9c1 bx9c2 bx9c3 bx9c4 bx9c5 bx9c6 bx9c7 bx9c8 bx9c9 bx9c10
  refine (implE_callD k ag sq cl ke wi c s lo hi 0 0 0 0 0 0 [] [] [] [] false X_6.out F.out.I).mono ?_
  rintro e w3 ⟨q1, x1, y1, z1, a1, b1, rfl, hs, hm, hb⟩
  have E1_11 := Aside0.mk hs
  clear hs
  have Z_12 := Aside0.mk hm
  clear hm
  unfold Made at Z_12
  have X_13 := Aside0.mk (X_6.out.below hb)
  have bx_14 := Aside0.mk (bx_9.out.below hb)
  have HB_15 := Aside0.mk (below_step HB_7.out hb)
  have Z_16 := Aside0.mk (hb.size)
  clear X_6 bx_9 HB_7 hb
  have hal := Aside0.mk (below_alloc (Below.refl _ w3) (.cells #[.int .i64 0, .int .i64 0, .slice q1.A q1.n q1.c, .int .i64 0, .int .i64 0, .int .i64 0, .int .i64 0, .slice x1.A x1.n x1.c, .slice y1.A y1.n y1.c, .slice z1.A z1.n z1.c] 34))
  have X_17 := Aside0.mk (X_13.out.below hal.out)
  have bx_18 := Aside0.mk (bx_14.out.below hal.out)
  have E1_19 := Aside0.mk (E1_11.out.below hal.out)
  have HB_20 := Aside0.mk (below_step HB_15.out hal.out)
  have Z_21 := Aside0.mk (show (w3.alloc (.cells #[.int .i64 0, .int .i64 0, .slice q1.A q1.n q1.c, .int .i64 0, .int .i64 0, .int .i64 0, .int .i64 0, .slice x1.A x1.n x1.c, .slice y1.A y1.n y1.c, .slice z1.A z1.n z1.c] 34)).heap.size = w3.heap.size + 1 by simp)
  have be_22 := Aside0.mk (Bx.new w3 34 #[.int .i64 0, .int .i64 0, .slice q1.A q1.n q1.c, .int .i64 0, .int .i64 0, .int .i64 0, .int .i64 0, .slice x1.A x1.n x1.c, .slice y1.A y1.n y1.c, .slice z1.A z1.n z1.c])
  clear X_13 bx_14 E1_11 HB_15 hal
  obtain ⟨bx22c0, bx22c1, bx22c2, bx22c3, bx22c4, bx22c5, bx22c6, bx22c7, bx22c8, bx22c9, bx22c10⟩ := bx_18.out.cells11
  go_wp2_with fail
  clear bx22c0 bx22c1 bx22c2 bx22c3 bx22c4 bx22c5 bx22c6 bx22c7 bx22c8 bx22c9 bx22c10
  refine (specE_callD k ag sq cl ke wi c s lo hi 0 0 0 0 0 0 [] [] [] [] false X_17.out F.out.S).mono ?_
  rintro e w4 ⟨q2, x2, y2, z2, a2, b2, rfl, hs, hm, hb⟩
  have W_24 := Aside0.mk hs
  clear hs
  have Z_25 := Aside0.mk hm
  clear hm
  unfold Made at Z_25
  have X_26 := Aside0.mk (X_17.out.below hb)
  have bx_27 := Aside0.mk (bx_18.out.below hb)
  have E1_28 := Aside0.mk (E1_19.out.below hb)
  have be_29 := Aside0.mk (be_22.out.below hb)
  have HB_30 := Aside0.mk (below_step HB_20.out hb)
  have Z_31 := Aside0.mk (hb.size)
  clear X_17 bx_18 E1_19 be_22 HB_20 hb
  have hal := Aside0.mk (below_alloc (Below.refl _ w4) (.cells #[.int .i64 0, .int .i64 0, .slice q2.A q2.n q2.c, .int .i64 0, .int .i64 0, .int .i64 0, .int .i64 0, .slice x2.A x2.n x2.c, .slice y2.A y2.n y2.c, .slice z2.A z2.n z2.c] 34))
  have X_32 := Aside0.mk (X_26.out.below hal.out)
  have bx_33 := Aside0.mk (bx_27.out.below hal.out)
  have E1_34 := Aside0.mk (E1_28.out.below hal.out)
  have be_35 := Aside0.mk (be_29.out.below hal.out)
  have W_36 := Aside0.mk (W_24.out.below hal.out)
  have HB_37 := Aside0.mk (below_step HB_30.out hal.out)
  have Z_38 := Aside0.mk (show (w4.alloc (.cells #[.int .i64 0, .int .i64 0, .slice q2.A q2.n q2.c, .int .i64 0, .int .i64 0, .int .i64 0, .int .i64 0, .slice x2.A x2.n x2.c, .slice y2.A y2.n y2.c, .slice z2.A z2.n z2.c] 34)).heap.size = w4.heap.size + 1 by simp)
  have bw_39 := Aside0.mk (Bx.new w4 34 #[.int .i64 0, .int .i64 0, .slice q2.A q2.n q2.c, .int .i64 0, .int .i64 0, .int .i64 0, .int .i64 0, .slice x2.A x2.n x2.c, .slice y2.A y2.n y2.c, .slice z2.A z2.n z2.c])
  clear X_26 bx_27 E1_28 be_29 W_24 HB_30 hal
  clear W_36 bw_39
  go_wp2_with fail
  refine (drawN_callD k a b (U0.out.below HB_37.out) F.out.N).mono ?_
  rintro e w5 ⟨rfl, hb⟩
  have X_40 := Aside0.mk (X_32.out.below hb)
  have bx_41 := Aside0.mk (bx_33.out.below hb)
  have E1_42 := Aside0.mk (E1_34.out.below hb)
  have be_43 := Aside0.mk (be_35.out.below hb)
  have HB_44 := Aside0.mk (below_step HB_37.out hb)
  have Z_45 := Aside0.mk (hb.size)
  clear X_32 bx_33 E1_34 be_35 HB_37 hb
  go_wp2_with fail
  refine (implId_callD a b id F.out.A).mono ?_
  rintro e w6 ⟨rfl, hb⟩
  have X_46 := Aside0.mk (X_40.out.below hb)
  have bx_47 := Aside0.mk (bx_41.out.below hb)
  have E1_48 := Aside0.mk (E1_42.out.below hb)
  have be_49 := Aside0.mk (be_43.out.below hb)
  have HB_50 := Aside0.mk (below_step HB_44.out hb)
  have Z_51 := Aside0.mk (hb.size)
  clear X_40 bx_41 E1_42 be_43 HB_44 hb
  rcases NI.out with hlt | ⟨hge, hn1, hn2, hdv, hmd⟩
  · skip
    go_wp2_with fail
    refine (specId_callD a b id F.out.C).mono ?_
    rintro e w7 ⟨rfl, hb⟩
    have X_52 := Aside0.mk (X_46.out.below hb);have bx_53 := Aside0.mk (bx_47.out.below hb);have E1_54 := Aside0.mk (E1_48.out.below hb);have be_55 := Aside0.mk (be_49.out.below hb);have HB_56 := Aside0.mk (below_step HB_50.out hb);have Z_57 := Aside0.mk (hb.size);clear X_46 bx_47 E1_48 be_49 HB_50 hb
    go_upto_region 12 with (fail)
    have hq0 : q1.n = 0 := E1_54.out.rd.q.e;obtain ⟨be57c0, be57c1, be57c2, be57c3, be57c4, be57c5, be57c6, be57c7, be57c8, be57c9⟩ := be_55.out.cells10
    go_wp2
    go_ret
    exact ⟨rfl, HB_56.out⟩
  · skip
    go_wp2_with fail
    refine (specId_callD a b id F.out.C).mono ?_
    rintro e w7 ⟨rfl, hb⟩
    have X_59 := Aside0.mk (X_46.out.below hb);have bx_60 := Aside0.mk (bx_47.out.below hb);have E1_61 := Aside0.mk (E1_48.out.below hb);have be_62 := Aside0.mk (be_49.out.below hb);have HB_63 := Aside0.mk (below_step HB_50.out hb);have Z_64 := Aside0.mk (hb.size);clear X_46 bx_47 E1_48 be_49 HB_50 hb
    go_upto_region 12 with (fail)
    have hq0 : q1.n = 0 := E1_61.out.rd.q.e;obtain ⟨be64c0, be64c1, be64c2, be64c3, be64c4, be64c5, be64c6, be64c7, be64c8, be64c9⟩ := be_62.out.cells10
    go_wp2
    go_ret
    exact ⟨rfl, HB_63.out⟩

set_option maxHeartbeats 8000000 in
theorem lawBig (A : Option Addr) (cp : Nat) (l : List Int) (w : World) (u : Bd w ⟨A, l.length, cp⟩ l) (BG : laws_big.f l = some true) :
    Calls Try.prog 3 #[.slice A l.length cp] w fun e w' => e = .returned (.bool true) ∧ Below w.heap.size w w' := by
  have U0 := Aside0.mk u
  have HB0 := Aside0.mk (Below.refl w.heap.size w)
  clear u
  go_enter Try.func3, Try.ntmps3
  go_wp2_with fail
  refine (big_callD (U0.out.below HB0.out) BG).mono ?_
  rintro e w1 ⟨rfl, hb⟩
  have HB_1 := Aside0.mk (below_step HB0.out hb)
  have Z_2 := Aside0.mk (hb.size)
  clear HB0 hb
  go_wp2
  go_ret
  exact ⟨rfl, HB_1.out⟩


theorem law (A : Option Addr) (cp : Nat) (l : List Int) (w : World) (C : (Kd.int .u8).C w A l.length l) (lc : l.length ≤ cp) (hg : l.length ≤ 9223372036854775807 ∧ ∀ x ∈ l, (0 ≤ x ∧ x ≤ 255)) :
    Calls Try.prog 3 #[.slice A l.length cp] w fun e w' => e = .returned (.bool true) ∧ Below w.heap.size w w' := by
  have u : Bd w ⟨A, l.length, cp⟩ l := ⟨rfl, lc, C⟩
  by_cases hb : (l.length : Int) > 1048576
  · exact lawBig A cp l w u (by unfold laws_big.f; rw [decide_eq_true hb])
  have hB : laws_big.f l = some false := by unfold laws_big.f; rw [decide_eq_false hb]
  obtain ⟨ag, sq, cl, ke, wi, c, s, lo, hi, h, r, R, ⟨K1, e1⟩, b1, b2, b3, b4⟩ := drawEntryOf_ev l (by omega)
  obtain ⟨a, b, ⟨K2, e2⟩⟩ := drawIdOf_ev l (by omega)
  obtain ⟨id, hid⟩ := idof_some a b
  obtain ⟨d, hd⟩ := idof_some ag sq
  obtain ⟨K3, e3⟩ := impl_entryOf_ev ag d sq cl ke wi c s lo hi h r R hd (by omega) (by omega) (by omega) (fun x hx => Nat.le_trans (b4 x hx) (by omega))
  obtain ⟨K4, e4⟩ := spec_entryOf_ev ag d sq cl ke wi c s lo hi h r R hd (by omega) (by omega) (by omega) (fun x hx => Nat.le_trans (b4 x hx) (by omega))
  by_cases ok : itemOk sq cl ke wi c s lo hi h r R = true ∧ ¬ d < 0
  · obtain ⟨K5, e5⟩ := items_ev ag sq cl ke wi c s lo hi d h r R hd ok.2 ok.1 b1 b2 b3 b4
    have ev : enV d sq cl ke wi c s lo hi h r R = (ke, wi, [⟨d, d⟩], c, s, lo, hi, h, r, R, true) := if_pos ok;rw [ev] at e3 e4;generalize hK : K1 + K2 + K3 + K4 + K5 = k;exact lawYes k A cp l w u _ _ _ _ _ _ _ _ _ _ _ _ d _ _ _ _ ⟨⟨hB, e1 k (by omega), e3 k (by omega), e4 k (by omega), e2 k (by omega), hid, by rw [idof_same]; exact hid⟩⟩ ⟨e5 k (by omega)⟩ ⟨idof_num hid⟩
  · have ev : enV d sq cl ke wi c s lo hi h r R = (0, 0, [], 0, 0, 0, 0, [], [], [], false) := if_neg ok
    rw [ev] at e3 e4;generalize hK : K1 + K2 + K3 + K4 = k;exact lawNo k A cp l w u _ _ _ _ _ _ _ _ _ _ _ _ _ _ _ ⟨⟨hB, e1 k (by omega), e3 k (by omega), e4 k (by omega), e2 k (by omega), hid, by rw [idof_same]; exact hid⟩⟩ ⟨idof_num hid⟩

end Go.Proofs.Ytdciagkholijlaa.HFnItems
