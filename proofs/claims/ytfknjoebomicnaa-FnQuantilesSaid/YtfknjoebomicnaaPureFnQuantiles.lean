/- A quantile's bucket is the reference's; it has as many at and below it as are asked for, those below it are fewer; greater shares lie no lower. -/
import Derived.Test.YtfknjoebomicnaaPFnQuantilesx14
import Derived.Test.YtfknjoebomicnaaAid
import Derived.Shelf.Spec.TrailingZeros
namespace Go.Proofs.Ytfknjoebomicnaa.Pure
open Go Go.RowKit Go.Proofs.Ytfknjoebomicnaa.PFnQuantiles Go.Proofs.YtfknjoebomicnaaW.PrintWords Go.Proofs.YtfknjoebomicnaaW.PrintLast Go.Proofs.YtfknjoebomicnaaW.PrintMore Go.Proofs.Ytfknjoebomicnaa.Aid

theorem rdR_get {xs : List (List Int)} {n : Nat} (h : n < xs.length) : rd_L2 xs (n : Int) = xs[n] := by
  unfold rd_L2
  rw [Int.toNat_natCast, List.getD_eq_getElem?_getD, List.getElem?_eq_getElem h]
  rfl
theorem and255 (x : Int) : 0 ≤ Go.bits .and .i64 x 255 ∧ Go.bits .and .i64 x 255 ≤ 255 := by
  have h : (BitVec.ofInt 64 x).toNat &&& 255 ≤ 255 := Nat.and_le_right
  have e : Go.bits .and .i64 x 255 = (((BitVec.ofInt 64 x).toNat &&& 255 : Nat) : Int) :=
    wraps_i64 _ (Int.natCast_nonneg _) (Int.lt_of_le_of_lt (Int.ofNat_le.mpr h) (by decide))
  rw [e]
  omega
theorem l1Byte_is (l : List Int) (hl : l.length ≤ 281474976702464) (p : Nat) (hp : p ≤ l.length) (r : Int) : ∃ (v q : Nat) (s : Int), spec_l1Byte.f l p r = some ((v : Int), (q : Int), s) ∧ v ≤ 255 ∧ q ≤ l.length := by
  unfold spec_l1Byte.f
  by_cases h : (p : Int) < (l.length : Int)
  · rw [if_pos h, if_pos (by omega)]
    obtain ⟨h0, h1⟩ := and255 (wrap64 ((Go.bits .and .i64 (Go.bits .xor .i64 ((wrap64 ((wrap64 (r * 6364136223846793005)) + 1442695040888963407)) / 8589934592) ((wrap64 ((wrap64 (r * 6364136223846793005)) + 1442695040888963407)) / 35184372088832)) 255) + (wrap64 (rd l p))))
    obtain ⟨v, hv⟩ := Int.eq_ofNat_of_zero_le h0
    rw [hv] at h1 ⊢
    exact ⟨v, p + 1, _, by rw [wsucc (by omega)], by omega, by omega⟩
  · rw [if_neg h]
    obtain ⟨h0, h1⟩ := and255 (Go.bits .xor .i64 ((wrap64 ((wrap64 (r * 6364136223846793005)) + 1442695040888963407)) / 8589934592) ((wrap64 ((wrap64 (r * 6364136223846793005)) + 1442695040888963407)) / 35184372088832))
    obtain ⟨v, hv⟩ := Int.eq_ofNat_of_zero_le h0
    rw [hv] at h1 ⊢
    exact ⟨v, p, _, rfl, by omega, hp⟩
theorem l1Below_is (l : List Int) (hl : l.length ≤ 281474976702464) (p : Nat) (hp : p ≤ l.length) (r : Int) (n : Nat) (h0 : 0 < n) (h1 : n ≤ 256) :
    ∃ (v q : Nat) (s : Int), spec_l1Below.f l p r (n : Int) = some ((v : Int), (q : Int), s) ∧ v < n ∧ q ≤ l.length := by
  obtain ⟨v, q, s, e, hv, hq⟩ := l1Byte_is l hl p hp r
  refine ⟨v % n, q, s, ?_, Nat.mod_lt _ h0, hq⟩
  unfold spec_l1Below.f
  rw [if_neg (by omega), if_pos (by omega), e]
  simp only [Option.bind_some]
  rw [if_neg (by omega), Int.tmod_eq_emod_of_nonneg (by omega)]
  rfl
theorem l1New_at (l : List Int) (d : Nat) : ∀ (i : Nat) (x : Int), i + d = l.length → ∃ s, Ev (fun k => spec_l1New.l0 k l x (i : Int)) (l, 0, s) := by
  induction d with
  | zero =>
    intro i x hi
    refine ⟨x, Ev.step (fun _ => rfl) ?_⟩
    simp only [spec_l1New.l0]
    exact ev_neg (by omega) (ev_some rfl)
  | succ d ih =>
    intro i x hi
    by_cases h4 : i < 4000
    · obtain ⟨s, hs⟩ := ih (i + 1) (Go.bits .and .i64 (wrap64 ((wrap64 ((wrap64 (x * 131)) + (wrap64 (rd l i)))) + 7)) 1073741823) (by omega)
      refine ⟨s, Ev.step (fun _ => rfl) ?_⟩
      simp only [spec_l1New.l0]
      refine ev_pos (by omega) (ev_pos (by omega) (ev_pos (by omega) ?_))
      rw [wsucc (by omega)]
      exact hs
    · refine ⟨x, Ev.step (fun _ => rfl) ?_⟩
      simp only [spec_l1New.l0]
      exact ev_pos (by omega) (ev_neg (by omega) (ev_some rfl))
theorem l1New_ev (l : List Int) : ∃ s, Ev (fun k => spec_l1New.f k l) (l, 0, s) := l1New_at l l.length 0 _ (by omega)
theorem within_is (a b c : Int) : impl_within.f a b c = some (decide (b ≤ a ∧ a ≤ c)) := in_is a b c
theorem l1In_is (a b c : Int) : spec_l1In.f a b c = some (decide (b ≤ a ∧ a ≤ c)) := in_is a b c
def LiOk (xs : List Int) (n : Nat) (most : Int) (zero : Prop) : Prop := xs.length = n ∧ ∀ x ∈ xs, (0 ≤ x ∧ x ≤ most) ∧ (zero → x = 0)
def SkOk (c s mn mx : Int) (h r : List Int) (R : List (List Int)) : Prop :=
  (0 ≤ c ∧ c ≤ 1000000000) ∧ (0 ≤ s ∧ s ≤ 1000000000) ∧ (0 ≤ mn ∧ mn ≤ 1000000) ∧ (0 ≤ mx ∧ mx ≤ 1000000) ∧ mn ≤ mx ∧ R.length = 2 ∧ (c = 0 → s = 0 ∧ mx = 0) ∧
  LiOk h 8 1000000000 (c = 0) ∧ LiOk r 8 17 (c = 0) ∧ LiOk (rd_L2 R 0) 4 1000000000 (c = 0) ∧ LiOk (rd_L2 R 1) 4 1000000000 (c = 0)
noncomputable def skOk (c s mn mx : Int) (h r : List Int) (R : List (List Int)) : Bool := @decide (SkOk c s mn mx h r R) (Classical.propDecidable _)
theorem skOk_true {c s mn mx : Int} {h r : List Int} {R : List (List Int)} : skOk c s mn mx h r R = true ↔ SkOk c s mn mx h r R := by
  unfold skOk
  exact @decide_eq_true_iff _ (Classical.propDecidable _)
theorem skOk_false {c s mn mx : Int} {h r : List Int} {R : List (List Int)} (hn : ¬ SkOk c s mn mx h r R) : skOk c s mn mx h r R = false := by
  cases e : skOk c s mn mx h r R with
  | false => rfl
  | true => exact absurd (skOk_true.1 e) hn
theorem l3List_at (xs : List Int) (n : Nat) (most : Int) (z : Bool) (hn : n ≤ 8) (hl : xs.length = n) (r : Bool) (d : Nat) : ∀ i : Nat, i + d = n →
    ((∀ x ∈ xs.drop i, (0 ≤ x ∧ x ≤ most) ∧ (z = true → x = 0)) → r = true) → (¬ (∀ x ∈ xs.drop i, (0 ≤ x ∧ x ≤ most) ∧ (z = true → x = 0)) → r = false) →
    Ev (fun k => spec_l3List.l0 k xs (n : Int) most z (i : Int)) r := by
  induction d with
  | zero =>
    intro i hi h1 _
    refine Ev.step (fun _ => rfl) ?_
    simp only [spec_l3List.l0]
    refine ev_neg (by omega) (ev_some ?_)
    rw [h1]
    intro x hx
    rw [List.drop_of_length_le (by omega)] at hx
    cases hx
  | succ d ih =>
    intro i hi h1 h2
    have hg : i < xs.length := by omega
    rw [List.drop_eq_getElem_cons hg] at h1 h2
    refine Ev.step (fun _ => rfl) ?_
    simp only [spec_l3List.l0]
    rw [wsucc (by omega), rd_get hg]
    refine ev_pos (by omega) (ev_pos (by omega) (ev_pos (by omega) (ev_bind0 (l1In_is _ _ _) ?_)))
    by_cases c : 0 ≤ xs[i] ∧ xs[i] ≤ most
    · refine ev_pos (decide_eq_true c) ?_
      have hrec : (z = true → xs[i] = 0) → Ev (fun k => spec_l3List.l0 k xs (n : Int) most z ((i + 1 : Nat) : Int)) r := by
        intro hz
        refine ih (i + 1) (by omega) (fun h => h1 fun x hx => ?_) (fun h => h2 fun g => h fun x hx => g x (List.mem_cons_of_mem _ hx))
        rcases List.mem_cons.1 hx with rfl | hx
        · exact ⟨c, hz⟩
        · exact h x hx
      by_cases hz : z = true
      · refine ev_pos hz ?_
        by_cases h0 : xs[i] = 0
        · exact ev_pos h0 (hrec fun _ => h0)
        · refine ev_neg h0 (ev_some ?_)
          exact (h2 fun g => h0 ((g _ List.mem_cons_self).2 hz)).symm
      · exact ev_neg hz (hrec fun h => absurd h hz)
    · refine ev_neg (by rw [decide_eq_false c]; exact Bool.false_ne_true) (ev_some ?_)
      exact (h2 fun g => c (g _ List.mem_cons_self).1).symm
theorem l3List_ev (xs : List Int) (n : Nat) (most : Int) (z : Bool) (hn : n ≤ 8) (r : Bool) (h1 : LiOk xs n most (z = true) → r = true) (h2 : ¬ LiOk xs n most (z = true) → r = false) : Ev (fun k => spec_l3List.f k xs (n : Int) most z) r := by
  unfold spec_l3List.f
  by_cases hl : xs.length = n
  · exact ev_pos (by omega) (l3List_at xs n most z hn hl r n 0 (by omega) (fun h => h1 ⟨hl, h⟩) (fun h => h2 fun g => h g.2))
  · exact ev_neg (by omega) (ev_some (h2 fun g => hl g.1).symm)
theorem l3List_dec (xs : List Int) (n : Nat) (most : Int) (z : Bool) (hn : n ≤ 8) (Z : Prop) (hz : (z = true) = Z) : Ev (fun k => spec_l3List.f k xs (n : Int) most z) (@decide (LiOk xs n most Z) (Classical.propDecidable _)) := by
  subst hz
  exact l3List_ev xs n most z hn _ (fun h => @decide_eq_true _ (Classical.propDecidable _) h) (fun h => @decide_eq_false _ (Classical.propDecidable _) h)
theorem spec_sketchOk_j1 (c s mn mx : Int) (h r : List Int) (R : List (List Int)) (hR : R.length = 2) (f : Bool) (v : Bool)
    (hv : f = false → LiOk h 8 1000000000 (c = 0) → LiOk r 8 17 (c = 0) → LiOk (rd_L2 R 0) 4 1000000000 (c = 0) → LiOk (rd_L2 R 1) 4 1000000000 (c = 0) → v = true)
    (hn : ¬ (f = false ∧ LiOk h 8 1000000000 (c = 0) ∧ LiOk r 8 17 (c = 0) ∧ LiOk (rd_L2 R 0) 4 1000000000 (c = 0) ∧ LiOk (rd_L2 R 1) 4 1000000000 (c = 0)) → v = false) :
    Ev (fun k => spec_SketchOk.j1 k (c == 0) f c s mn mx h r R) v := by
  have ez : ((c == 0) = true) = (c = 0) := by simp
  refine Ev.step (fun _ => rfl) ?_
  simp only [spec_SketchOk.j1]
  refine ev_if (fun hf => ev_some (hn fun g => by rw [hf] at g; exact absurd g.1 (by simp)).symm) (fun hf => ?_)
  have hf' : f = false := by simpa using hf
  have L := fun xs n most hn => l3List_dec xs n most (c == 0) hn (c = 0) ez
  refine Ev.bind (L h 8 1000000000 (by omega)) ?_
  refine ev_if (fun g1 => ?_) (fun g1 => ev_some (hn fun g => g1 (@decide_eq_true _ (Classical.propDecidable _) g.2.1)).symm)
  refine Ev.bind (L r 8 17 (by omega)) ?_
  refine ev_if (fun g2 => ?_) (fun g2 => ev_some (hn fun g => g2 (@decide_eq_true _ (Classical.propDecidable _) g.2.2.1)).symm)
  refine ev_pos (by omega) (Ev.bind (L (rd_L2 R 0) 4 1000000000 (by omega)) ?_)
  refine ev_if (fun g3 => ?_) (fun g3 => ev_some (hn fun g => g3 (@decide_eq_true _ (Classical.propDecidable _) g.2.2.2.1)).symm)
  refine ev_pos (by omega) (Ev.bind (L (rd_L2 R 1) 4 1000000000 (by omega)) (ev_some ?_))
  have t1 := @of_decide_eq_true _ (Classical.propDecidable _) g1
  have t2 := @of_decide_eq_true _ (Classical.propDecidable _) g2
  have t3 := @of_decide_eq_true _ (Classical.propDecidable _) g3
  by_cases t4 : LiOk (rd_L2 R 1) 4 1000000000 (c = 0)
  · rw [hv hf' t1 t2 t3 t4]
    exact @decide_eq_true _ (Classical.propDecidable _) t4
  · rw [hn fun g => t4 g.2.2.2.2]
    exact @decide_eq_false _ (Classical.propDecidable _) t4
theorem spec_sketchOk_ev (c s mn mx : Int) (h r : List Int) (R : List (List Int)) : Ev (fun k => spec_SketchOk.f k c s mn mx h r R) (skOk c s mn mx h r R) := by
  have bad : ¬ SkOk c s mn mx h r R → Ev (fun k => spec_SketchOk.j0 k true c s mn mx h r R) (skOk c s mn mx h r R) := by
    intro hb
    refine Ev.step (fun _ => rfl) ?_
    simp only [spec_SketchOk.j0]
    exact ev_pos (by trivial) (ev_some (skOk_false hb).symm)
  unfold spec_SketchOk.f
  refine ev_bind0 (l1In_is _ _ _) ?_
  by_cases a1 : 0 ≤ c ∧ c ≤ 1000000000
  case neg => exact ev_neg (by rw [decide_eq_false a1]; exact Bool.false_ne_true) (bad fun g => a1 g.1)
  refine ev_pos (decide_eq_true a1) (ev_bind0 (l1In_is _ _ _) ?_)
  by_cases a2 : 0 ≤ s ∧ s ≤ 1000000000
  case neg => exact ev_neg (by rw [decide_eq_false a2]; exact Bool.false_ne_true) (bad fun g => a2 g.2.1)
  refine ev_pos (decide_eq_true a2) (ev_bind0 (l1In_is _ _ _) ?_)
  by_cases a3 : 0 ≤ mn ∧ mn ≤ 1000000
  case neg => exact ev_neg (by rw [decide_eq_false a3]; exact Bool.false_ne_true) (bad fun g => a3 g.2.2.1)
  refine ev_pos (decide_eq_true a3) (ev_bind0 (l1In_is _ _ _) ?_)
  by_cases a4 : 0 ≤ mx ∧ mx ≤ 1000000
  case neg => exact ev_neg (by rw [decide_eq_false a4]; exact Bool.false_ne_true) (bad fun g => a4 g.2.2.2.1)
  refine ev_pos (decide_eq_true a4) ?_
  by_cases a5 : mn ≤ mx
  case neg => exact ev_pos (by omega) (bad fun g => a5 g.2.2.2.2.1)
  refine ev_neg (by omega) ?_
  by_cases a6 : R.length = 2
  case neg =>
    have e : ((R.length : Int) != 2) = true := by simp; omega
    rw [e]
    exact bad fun g => a6 g.2.2.2.2.2.1
  have e : ((R.length : Int) != 2) = false := by simp; omega
  rw [e]
  refine Ev.step (fun _ => rfl) ?_
  simp only [spec_SketchOk.j0]
  refine ev_neg (by simp) ?_
  have fin : ∀ f : Bool, (f = false ↔ (c = 0 → s = 0 ∧ mx = 0)) → Ev (fun k => spec_SketchOk.j1 k (c == 0) f c s mn mx h r R) (skOk c s mn mx h r R) := by
    intro f hf
    refine spec_sketchOk_j1 c s mn mx h r R a6 f _ (fun g1 g2 g3 g4 g5 => skOk_true.2 ⟨a1, a2, a3, a4, a5, a6, hf.1 g1, g2, g3, g4, g5⟩) (fun g => skOk_false fun q => g ⟨hf.2 q.2.2.2.2.2.2.1, q.2.2.2.2.2.2.2⟩)
  refine ev_if (fun z => ?_) (fun z => fin false ⟨fun _ h => absurd h z, fun _ => rfl⟩)
  refine ev_if (fun z2 => fin _ ?_) (fun z2 => fin true ⟨fun h => by simp at h, fun h => absurd (h z).1 z2⟩)
  constructor
  · intro h _
    exact ⟨z2, by simpa using h⟩
  · intro h
    simpa using (h z).2
theorem sum_bd (ys : List Int) (h : ∀ x ∈ ys, 0 ≤ x ∧ x ≤ 1000000000) : 0 ≤ ys.sum ∧ ys.sum ≤ ys.length * 1000000000 := by
  induction ys with
  | nil => simp
  | cons y ys ih =>
    have h1 := h y List.mem_cons_self
    have h2 := ih fun x hx => h x (List.mem_cons_of_mem _ hx)
    rw [List.sum_cons, List.length_cons]
    omega
theorem sum_zero (ys : List Int) (h : ∀ x ∈ ys, 0 ≤ x ∧ x ≤ 1000000000) (h0 : ys.sum = 0) : ∀ x ∈ ys, x = 0 := by
  induction ys with
  | nil => exact fun x hx => by cases hx
  | cons y ys ih =>
    intro x hx
    have h1 := h y List.mem_cons_self
    have h2 := sum_bd ys fun x hx => h x (List.mem_cons_of_mem _ hx)
    rw [List.sum_cons] at h0
    rcases List.mem_cons.1 hx with rfl | hx
    · omega
    · exact ih (fun x hx => h x (List.mem_cons_of_mem _ hx)) (by omega) x hx
theorem zero_sum (ys : List Int) (h : ∀ x ∈ ys, x = 0) : ys.sum = 0 := by
  induction ys with
  | nil => rfl
  | cons y ys ih =>
    rw [List.sum_cons, h y List.mem_cons_self, ih fun x hx => h x (List.mem_cons_of_mem _ hx)]
    rfl
theorem copyInts_is (xs : List Int) (h : xs.length ≤ 1048576) : impl_copyInts.f xs = some xs := by
  unfold impl_copyInts.f
  rw [if_pos (by simp; omega)]
  rfl
theorem counts_ev (c s mn mx : Int) (h r A B : List Int) (hh : h.length ≤ 8) (hr : r.length ≤ 8) (hA : A.length ≤ 8) (hB : B.length ≤ 8) :
    Ev (fun k => impl_counts.f k c s mn mx h r [A, B]) (((h ++ r) ++ A) ++ B) := by
  unfold impl_counts.f
  refine ev_bind0 (copyInts_is h (by omega)) (ev_pos (by omega) ?_)
  refine Ev.step (fun _ => rfl) ?_
  simp only [impl_counts.l0]
  refine ev_pos (by simp) (ev_pos (by simp) (ev_pos (by simp) ?_))
  have e0 : rd_L2 [A, B] 0 = A := rfl
  have w1 : wrap64 (0 + 1) = 1 := by unfold wrap64; omega
  have w2 : wrap64 (1 + 1) = 2 := by unfold wrap64; omega
  have e1 : rd_L2 [A, B] (wrap64 (0 + 1)) = B := by rw [w1]; rfl
  refine ev_pos (by rw [e0]; simp; omega) ?_
  refine Ev.step (fun _ => rfl) ?_
  simp only [impl_counts.l0]
  refine ev_pos (by rw [w1]; simp) (ev_pos (by rw [w1]; omega) (ev_pos (by rw [w1]; simp) ?_))
  refine ev_pos (by rw [e0, e1]; simp; omega) ?_
  refine Ev.step (fun _ => rfl) ?_
  simp only [impl_counts.l0]
  exact ev_neg (by rw [w1, w2]; simp) (ev_some (by rw [e0, e1]))
theorem impl_sketchOk_l1 (c s mn mx : Int) (h r : List Int) (R : List (List Int)) (v : Bool) (t : Int) (hr : r.length ≤ 8) (d : Nat) : ∀ i : Nat, i + d = r.length →
    ((∀ x ∈ r.drop i, x ≤ 17) → v = if c = 0 then (t == 0) else decide (mn ≤ mx ∧ mx ≤ 1000000)) → (¬ (∀ x ∈ r.drop i, x ≤ 17) → v = false) →
    Ev (fun k => impl_SketchOk.l1 k t r (r.length : Int) (i : Int) c s mn mx h r R) v := by
  induction d with
  | zero =>
    intro i hi h1 _
    refine Ev.step (fun _ => rfl) ?_
    simp only [impl_SketchOk.l1]
    refine ev_neg (by omega) ?_
    rw [h1 (fun x hx => by rw [List.drop_of_length_le (by omega)] at hx; cases hx)]
    by_cases hc : c = 0
    · exact ev_pos hc (ev_some (by rw [if_pos hc]))
    · refine ev_neg hc (ev_if (fun g => ev_some ?_) (fun g => ev_some (by rw [if_neg hc]; exact (decide_eq_false fun q => g q.1).symm)))
      rw [if_neg hc]
      exact decide_eq_decide.mpr ⟨fun x => ⟨g, x⟩, fun x => x.2⟩
  | succ d ih =>
    intro i hi h1 h2
    have hg : i < r.length := by omega
    rw [List.drop_eq_getElem_cons hg] at h1 h2
    refine Ev.step (fun _ => rfl) ?_
    simp only [impl_SketchOk.l1]
    rw [wsucc (by omega), rd_get hg]
    refine ev_pos (by omega) (ev_pos (by omega) (ev_pos (by omega) ?_))
    by_cases g : r[i] > 17
    · exact ev_pos g (ev_some (h2 fun q => by have := q _ List.mem_cons_self; omega).symm)
    · refine ev_neg g (ih (i + 1) (by omega) (fun q => h1 fun x hx => ?_) (fun q => h2 fun p => q fun x hx => p x (List.mem_cons_of_mem _ hx)))
      rcases List.mem_cons.1 hx with rfl | hx
      · omega
      · exact q x hx
theorem impl_sketchOk_l0 (c s mn mx : Int) (h r : List Int) (R : List (List Int)) (v : Bool) (ys : List Int) (hy : ys.length ≤ 100) (d : Nat) : ∀ (i : Nat) (t : Int), i + d = ys.length → 0 ≤ t → t ≤ (i : Int) * 1000000000 →
    ((∀ x ∈ ys.drop i, 0 ≤ x ∧ x ≤ 1000000000) → Ev (fun k => impl_SketchOk.l1 k (t + (ys.drop i).sum) r (r.length : Int) 0 c s mn mx h r R) v) → (¬ (∀ x ∈ ys.drop i, 0 ≤ x ∧ x ≤ 1000000000) → v = false) →
    Ev (fun k => impl_SketchOk.l0 k t ys (ys.length : Int) (i : Int) c s mn mx h r R) v := by
  induction d with
  | zero =>
    intro i t hi h0 ht h1 _
    refine Ev.step (fun _ => rfl) ?_
    simp only [impl_SketchOk.l0]
    refine ev_neg (by omega) ?_
    rw [List.drop_of_length_le (by omega)] at h1
    have := h1 (fun x hx => by cases hx)
    rw [List.sum_nil, Int.add_zero] at this
    exact this
  | succ d ih =>
    intro i t hi h0 ht h1 h2
    have hg : i < ys.length := by omega
    rw [List.drop_eq_getElem_cons hg] at h1 h2
    refine Ev.step (fun _ => rfl) ?_
    simp only [impl_SketchOk.l0]
    rw [wsucc (by omega), rd_get hg]
    refine ev_pos (by omega) (ev_pos (by omega) (ev_pos (by omega) (ev_bind0 (within_is _ _ _) ?_)))
    by_cases g : 0 ≤ ys[i] ∧ ys[i] ≤ 1000000000
    · refine ev_pos (decide_eq_true g) ?_
      rw [w64 (x := t + ys[i]) (by omega) (by omega)]
      refine ih (i + 1) _ (by omega) (by omega) (by omega) (fun q => ?_) (fun q => h2 fun p => q fun x hx => p x (List.mem_cons_of_mem _ hx))
      rw [Int.add_assoc, ← List.sum_cons]
      refine h1 fun x hx => ?_
      rcases List.mem_cons.1 hx with rfl | hx
      · exact g
      · exact q x hx
    · exact ev_neg (by rw [decide_eq_false g]; exact Bool.false_ne_true) (ev_some (h2 fun q => g (q _ List.mem_cons_self)).symm)
theorem impl_sketchOk_ev (c s mn mx : Int) (h r : List Int) (R : List (List Int)) : Ev (fun k => impl_SketchOk.f k c s mn mx h r R) (skOk c s mn mx h r R) := by
  have bad : ¬ SkOk c s mn mx h r R → Ev (fun k => impl_SketchOk.j0 k true c s mn mx h r R) (skOk c s mn mx h r R) := by
    intro hb
    refine Ev.step (fun _ => rfl) ?_
    simp only [impl_SketchOk.j0]
    exact ev_pos (by trivial) (ev_some (skOk_false hb).symm)
  unfold impl_SketchOk.f
  by_cases a1 : h.length = 8
  case neg => exact ev_neg (by omega) (bad fun g => a1 g.2.2.2.2.2.2.2.1.1)
  refine ev_pos (by omega) ?_
  by_cases a2 : r.length = 8
  case neg => exact ev_neg (by omega) (bad fun g => a2 g.2.2.2.2.2.2.2.2.1.1)
  refine ev_pos (by omega) ?_
  by_cases a3 : R.length = 2
  case neg => exact ev_neg (by omega) (bad fun g => a3 g.2.2.2.2.2.1)
  refine ev_pos (by omega) (ev_pos (by omega) ?_)
  by_cases a4 : (rd_L2 R 0).length = 4
  case neg => exact ev_neg (by omega) (bad fun g => a4 g.2.2.2.2.2.2.2.2.2.1.1)
  refine ev_pos (by omega) (ev_pos (by omega) ?_)
  by_cases a5 : (rd_L2 R 1).length = 4
  case neg =>
    have e : (((rd_L2 R 1).length : Int) != 4) = true := by simp; omega
    rw [e]
    exact bad fun g => a5 g.2.2.2.2.2.2.2.2.2.2.1
  have e : (((rd_L2 R 1).length : Int) != 4) = false := by simp; omega
  rw [e]
  clear e bad
  obtain ⟨A, B, rfl⟩ : ∃ A B, R = [A, B] := by
    match R, a3 with
    | [A, B], _ => exact ⟨A, B, rfl⟩
  have eA : rd_L2 [A, B] 0 = A := rfl
  have eB : rd_L2 [A, B] 1 = B := rfl
  rw [eA] at a4
  rw [eB] at a5
  refine Ev.step (fun _ => rfl) ?_
  simp only [impl_SketchOk.j0]
  refine ev_neg (by simp) (Ev.bind (counts_ev c s mn mx h r A B (by omega) (by omega) (by omega) (by omega)) (ev_bind0 rfl (ev_pos ?_ (ev_bind0 rfl ?_))))
  · simp only [List.length_append, List.length_cons, List.length_nil]
    omega
  generalize hys : (((h ++ r) ++ A) ++ B) ++ [c, s, mn, mx] = ys
  have hyl : ys.length = 28 := by
    rw [← hys]
    simp only [List.length_append, List.length_cons, List.length_nil]
    omega
  have hmem : ∀ P : Int → Prop, (∀ x ∈ ys, P x) ↔ (∀ x ∈ h, P x) ∧ (∀ x ∈ r, P x) ∧ (∀ x ∈ A, P x) ∧ (∀ x ∈ B, P x) ∧ P c ∧ P s ∧ P mn ∧ P mx := by
    intro P
    rw [← hys]
    constructor
    · intro q
      exact ⟨fun x hx => q x (by simp [hx]), fun x hx => q x (by simp [hx]), fun x hx => q x (by simp [hx]), fun x hx => q x (by simp [hx]), q c (by simp), q s (by simp), q mn (by simp), q mx (by simp)⟩
    · rintro ⟨q1, q2, q3, q4, q5, q6, q7, q8⟩ x hx
      simp only [List.mem_append, List.mem_cons, List.not_mem_nil, or_false] at hx
      rcases hx with (((hx | hx) | hx) | hx) | rfl | rfl | rfl | rfl
      · exact q1 x hx
      · exact q2 x hx
      · exact q3 x hx
      · exact q4 x hx
      · exact q5
      · exact q6
      · exact q7
      · exact q8
  refine impl_sketchOk_l0 c s mn mx h r [A, B] _ ys (by omega) 28 0 0 (by omega) (by omega) (by omega) (fun q => ?_) (fun q => skOk_false fun g => q ?_)
  · rw [List.drop_zero] at q
    rw [List.drop_zero, Int.zero_add]
    have qq := (hmem _).1 q
    refine impl_sketchOk_l1 c s mn mx h r [A, B] _ ys.sum (by omega) 8 0 (by omega) (fun p => ?_) (fun p => skOk_false fun g => p fun x hx => ?_)
    · rw [List.drop_zero] at p
      by_cases hc : c = 0
      · rw [if_pos hc]
        by_cases hz : ys.sum = 0
        · have z := (hmem _).1 (sum_zero ys q hz)
          have e : (ys.sum == 0) = true := by simpa using hz
          rw [e]
          refine skOk_true.2 ⟨by omega, by omega, by omega, by omega, by omega, rfl, fun _ => ⟨z.2.2.2.2.2.1, z.2.2.2.2.2.2.2⟩, ⟨a1, fun x hx => ⟨qq.1 x hx, fun _ => z.1 x hx⟩⟩, ⟨a2, fun x hx => ⟨⟨(qq.2.1 x hx).1, p x hx⟩, fun _ => z.2.1 x hx⟩⟩, ⟨a4, fun x hx => ⟨qq.2.2.1 x hx, fun _ => z.2.2.1 x hx⟩⟩, ⟨a5, fun x hx => ⟨qq.2.2.2.1 x hx, fun _ => z.2.2.2.1 x hx⟩⟩⟩
        · have e : (ys.sum == 0) = false := by simpa using hz
          rw [e]
          refine skOk_false fun g => hz (zero_sum ys ((hmem _).2 ?_))
          obtain ⟨g1, g2, g3, g4, g5, g6, g7, g8, g9, g10, g11⟩ := g
          have := g7 hc
          exact ⟨fun x hx => (g8.2 x hx).2 hc, fun x hx => (g9.2 x hx).2 hc, fun x hx => (g10.2 x hx).2 hc, fun x hx => (g11.2 x hx).2 hc, hc, this.1, by omega, this.2⟩
      · rw [if_neg hc]
        by_cases hm : mn ≤ mx ∧ mx ≤ 1000000
        · rw [decide_eq_true hm]
          refine skOk_true.2 ⟨qq.2.2.2.2.1, qq.2.2.2.2.2.1, by omega, by omega, hm.1, rfl, fun z => absurd z hc, ⟨a1, fun x hx => ⟨qq.1 x hx, fun z => absurd z hc⟩⟩, ⟨a2, fun x hx => ⟨⟨(qq.2.1 x hx).1, p x hx⟩, fun z => absurd z hc⟩⟩, ⟨a4, fun x hx => ⟨qq.2.2.1 x hx, fun z => absurd z hc⟩⟩, ⟨a5, fun x hx => ⟨qq.2.2.2.1 x hx, fun z => absurd z hc⟩⟩⟩
        · rw [decide_eq_false hm]
          exact skOk_false fun g => hm ⟨g.2.2.2.2.1, g.2.2.2.1.2⟩
    · rw [List.drop_zero] at hx
      exact (g.2.2.2.2.2.2.2.2.1.2 x hx).1.2
  · rw [List.drop_zero]
    obtain ⟨g1, g2, g3, g4, g5, g6, g7, g8, g9, g10, g11⟩ := g
    exact (hmem _).2 ⟨fun x hx => (g8.2 x hx).1, fun x hx => by have := (g9.2 x hx).1; omega, fun x hx => (g10.2 x hx).1, fun x hx => (g11.2 x hx).1, g1, g2, by omega, by omega⟩
def clipV (a : Int) : Nat := if a ≤ 0 then 0 else if a ≤ 1000000 then a.toNat else 1000000
theorem clipV_le (a : Int) : clipV a ≤ 1000000 := by
  unfold clipV
  split
  · omega
  · split <;> omega
def bl : Nat → Nat → Nat
  | 0, _ => 0
  | d + 1, x => if x = 0 then 0 else bl d (x / 2) + 1
theorem bl_le (d x : Nat) : bl d x ≤ d := by
  induction d generalizing x with
  | zero => exact Nat.le_refl _
  | succ d ih =>
    unfold bl
    split
    · omega
    · have := ih (x / 2)
      omega
theorem bl_more (d e : Nat) : ∀ x, x < 2 ^ d → bl (d + e) x = bl d x := by
  induction d with
  | zero =>
    intro x hx
    obtain rfl : x = 0 := by omega
    cases e <;> simp [bl]
  | succ d ih =>
    intro x hx
    rw [show d + 1 + e = (d + e) + 1 by omega]
    unfold bl
    rw [Nat.pow_succ] at hx
    rw [ih (x / 2) (by omega)]
theorem bl_shift (d j : Nat) : ∀ x, 2 ^ j ≤ x → bl (d + j) x = bl d (x / 2 ^ j) + j := by
  induction j with
  | zero =>
    intro x _
    simp
  | succ j ih =>
    intro x hx
    rw [Nat.pow_succ] at hx
    have hp : 0 < 2 ^ j := Nat.two_pow_pos j
    rw [show d + (j + 1) = (d + j) + 1 by omega]
    conv => lhs; unfold bl
    rw [if_neg (by omega), ih (x / 2) (by omega), Nat.div_div_eq_div_mul, Nat.mul_comm 2, ← Nat.pow_succ, Nat.succ_eq_add_one]
    omega
theorem tab_is : ∀ t : Fin 256, bt (⟨#[0, 1, 2, 2, 3, 3, 3, 3, 4, 4, 4, 4, 4, 4, 4, 4, 5, 5, 5, 5, 5, 5, 5, 5, 5, 5, 5, 5, 5, 5, 5, 5, 6, 6, 6, 6, 6, 6, 6, 6, 6, 6, 6, 6, 6, 6, 6, 6, 6, 6, 6, 6, 6, 6, 6, 6, 6, 6, 6, 6, 6, 6, 6, 6, 7, 7, 7, 7, 7, 7, 7, 7, 7, 7, 7, 7, 7, 7, 7, 7, 7, 7, 7, 7, 7, 7, 7, 7, 7, 7, 7, 7, 7, 7, 7, 7, 7, 7, 7, 7, 7, 7, 7, 7, 7, 7, 7, 7, 7, 7, 7, 7, 7, 7, 7, 7, 7, 7, 7, 7, 7, 7, 7, 7, 7, 7, 7, 7, 8, 8, 8, 8, 8, 8, 8, 8, 8, 8, 8, 8, 8, 8, 8, 8, 8, 8, 8, 8, 8, 8, 8, 8, 8, 8, 8, 8, 8, 8, 8, 8, 8, 8, 8, 8, 8, 8, 8, 8, 8, 8, 8, 8, 8, 8, 8, 8, 8, 8, 8, 8, 8, 8, 8, 8, 8, 8, 8, 8, 8, 8, 8, 8, 8, 8, 8, 8, 8, 8, 8, 8, 8, 8, 8, 8, 8, 8, 8, 8, 8, 8, 8, 8, 8, 8, 8, 8, 8, 8, 8, 8, 8, 8, 8, 8, 8, 8, 8, 8, 8, 8, 8, 8, 8, 8, 8, 8, 8, 8, 8, 8, 8, 8, 8, 8, 8, 8, 8, 8, 8, 8, 8, 8, 8, 8, 8, 8]⟩ : ByteArray) ((t.val : Nat) : Int) = ((bl 8 t.val : Nat) : Int) := by decide +kernel
theorem tab_at (t : Nat) (h : t < 256) : bt (⟨#[0, 1, 2, 2, 3, 3, 3, 3, 4, 4, 4, 4, 4, 4, 4, 4, 5, 5, 5, 5, 5, 5, 5, 5, 5, 5, 5, 5, 5, 5, 5, 5, 6, 6, 6, 6, 6, 6, 6, 6, 6, 6, 6, 6, 6, 6, 6, 6, 6, 6, 6, 6, 6, 6, 6, 6, 6, 6, 6, 6, 6, 6, 6, 6, 7, 7, 7, 7, 7, 7, 7, 7, 7, 7, 7, 7, 7, 7, 7, 7, 7, 7, 7, 7, 7, 7, 7, 7, 7, 7, 7, 7, 7, 7, 7, 7, 7, 7, 7, 7, 7, 7, 7, 7, 7, 7, 7, 7, 7, 7, 7, 7, 7, 7, 7, 7, 7, 7, 7, 7, 7, 7, 7, 7, 7, 7, 7, 7, 8, 8, 8, 8, 8, 8, 8, 8, 8, 8, 8, 8, 8, 8, 8, 8, 8, 8, 8, 8, 8, 8, 8, 8, 8, 8, 8, 8, 8, 8, 8, 8, 8, 8, 8, 8, 8, 8, 8, 8, 8, 8, 8, 8, 8, 8, 8, 8, 8, 8, 8, 8, 8, 8, 8, 8, 8, 8, 8, 8, 8, 8, 8, 8, 8, 8, 8, 8, 8, 8, 8, 8, 8, 8, 8, 8, 8, 8, 8, 8, 8, 8, 8, 8, 8, 8, 8, 8, 8, 8, 8, 8, 8, 8, 8, 8, 8, 8, 8, 8, 8, 8, 8, 8, 8, 8, 8, 8, 8, 8, 8, 8, 8, 8, 8, 8, 8, 8, 8, 8, 8, 8, 8, 8, 8, 8, 8, 8]⟩ : ByteArray) (t : Int) = ((bl 8 t : Nat) : Int) := tab_is ⟨t, h⟩
set_option maxRecDepth 100000 in
theorem len_ev (x : Nat) (hx : x ≤ 1000000) : Ev (fun k => bits_Len.f k (x : Int)) ((bl 20 x : Nat) : Int) := by
  unfold bits_Len.f
  refine Ev.bind (a := ((bl 20 x : Nat) : Int)) ?_ (ev_some rfl)
  unfold bits_Len64.f
  refine ev_neg (by omega) (Ev.step (fun _ => rfl) ?_)
  unfold bits_Len64.j0
  by_cases h1 : 65536 ≤ x
  · refine ev_pos (by omega) (ev_neg (by omega) ?_)
    have e : ((x : Int) / 65536) % 256 = ((x / 65536 : Nat) : Int) := by omega
    rw [e, tab_at _ (by omega)]
    refine ev_pos (by omega) (ev_pos (by omega) (ev_some ?_))
    have hb := bl_le 8 (x / 65536)
    have h4 : bl 8 (x / 65536) = bl 4 (x / 65536) := bl_more 4 4 _ (by omega)
    have h20 : bl 20 x = bl 4 (x / 65536) + 16 := bl_shift 4 16 x (by omega)
    rw [h20, ← h4]
    generalize bl 8 (x / 65536) = q at hb
    unfold wrap64
    omega
  · refine ev_neg (by omega) ?_
    by_cases h2 : 256 ≤ x
    · refine ev_pos (by omega) ?_
      have e : ((x : Int) / 256) % 256 = ((x / 256 : Nat) : Int) := by omega
      rw [e, tab_at _ (by omega)]
      refine ev_pos (by omega) (ev_pos (by omega) (ev_some ?_))
      have hb := bl_le 8 (x / 256)
      have h4 : bl 12 (x / 256) = bl 8 (x / 256) := bl_more 8 4 _ (by omega)
      have h20 : bl 20 x = bl 12 (x / 256) + 8 := bl_shift 12 8 x (by omega)
      rw [h20, h4]
      generalize bl 8 (x / 256) = q at hb
      unfold wrap64
      omega
    · refine ev_neg (by omega) ?_
      have e : (x : Int) % 256 = ((x : Nat) : Int) := by omega
      rw [e, tab_at _ (by omega)]
      refine ev_pos (by omega) (ev_pos (by omega) (ev_some ?_))
      have hb := bl_le 8 x
      have h20 : bl 20 x = bl 8 x := bl_more 8 12 _ (by omega)
      rw [h20]
      generalize bl 8 x = q at hb
      unfold wrap64
      omega
def bucketOf (a : Int) : Int := (((bl 20 (clipV a) + 2) / 3 : Nat) : Int)
theorem third (q : Nat) (h : q ≤ 20) : wrap64 (Int.tdiv (wrap64 ((q : Int) + 2)) 3) = (((q + 2) / 3 : Nat) : Int) := by
  rw [w64 (x := (q : Int) + 2) (by omega) (by omega), Int.tdiv_eq_ediv_of_nonneg (by omega), w64 (by omega) (by omega)]
  omega
theorem impl_bucketOf_ev (a : Int) : Ev (fun k => impl_BucketOf.f k a) (bucketOf a) := by
  unfold impl_BucketOf.f bucketOf clipV
  by_cases h : a ≤ 0
  · rw [if_pos h]
    exact ev_pos h (ev_some rfl)
  · rw [if_neg h]
    refine ev_neg h ?_
    have e : IntKind.u64.wrap (mn a 1000000) = (((if a ≤ 1000000 then a.toNat else 1000000 : Nat)) : Int) := by
      unfold mn
      simp only [IntKind.wrap, IntKind.bits, IntKind.signed, Bool.false_and, Bool.false_eq_true, if_false]
      split <;> split <;> omega
    rw [e]
    have hc : (if a ≤ 1000000 then a.toNat else 1000000 : Nat) ≤ 1000000 := by split <;> omega
    exact Ev.bind (len_ev _ hc) (ev_some (third _ (bl_le 20 _)))
theorem spec_clip_is (a : Int) : spec_l2Clip.f a 1000000 = some ((clipV a : Nat) : Int) := by
  unfold spec_l2Clip.f spec_l1Min.f spec_l1Max.f clipV
  by_cases h : a < 1000000
  · rw [if_pos h]
    simp only [Option.bind_some]
    by_cases h2 : a ≤ 0
    · rw [if_pos h2]
      by_cases h3 : 0 > a
      · rw [if_pos h3]
        rfl
      · rw [if_neg h3]
        simp only [Option.bind_some, Option.some.injEq]
        omega
    · rw [if_neg (by omega), if_neg h2, if_pos (by omega)]
      simp only [Option.bind_some, Option.some.injEq]
      omega
  · rw [if_neg h]
    simp only [Option.bind_some]
    rw [if_neg (by omega), if_neg (by omega : ¬ a ≤ 0)]
    by_cases h2 : a ≤ 1000000
    · rw [if_pos h2]
      simp only [Option.bind_some, Option.some.injEq]
      omega
    · rw [if_neg h2]
      rfl
theorem spec_bucket_at (d : Nat) : ∀ (x n : Nat), x < 2 ^ d → n + d ≤ 20 → Ev (fun k => spec_BucketOf.l0 k (x : Int) (n : Int)) (((n + bl d x + 2) / 3 : Nat) : Int) := by
  induction d with
  | zero =>
    intro x n hx hn
    obtain rfl : x = 0 := by omega
    refine Ev.step (fun _ => rfl) ?_
    simp only [spec_BucketOf.l0]
    exact ev_neg (by omega) (ev_some (third n (by omega)))
  | succ d ih =>
    intro x n hx hn
    refine Ev.step (fun _ => rfl) ?_
    simp only [spec_BucketOf.l0]
    unfold bl
    by_cases h0 : x = 0
    · rw [if_pos h0]
      exact ev_neg (by omega) (ev_some (third n (by omega)))
    · rw [if_neg h0]
      refine ev_pos (by omega) ?_
      have e : wrap64 (Int.tdiv (x : Int) 2) = ((x / 2 : Nat) : Int) := by
        have : x < 2 ^ 20 := Nat.lt_of_lt_of_le hx (Nat.pow_le_pow_right (by omega) (by omega))
        rw [Int.tdiv_eq_ediv_of_nonneg (by omega), w64 (by omega) (by omega)]
        omega
      rw [e, wsucc (by omega)]
      rw [Nat.pow_succ] at hx
      have := ih (x / 2) (n + 1) (by omega) (by omega)
      rw [show n + (bl d (x / 2) + 1) + 2 = n + 1 + bl d (x / 2) + 2 by omega]
      exact this
theorem spec_bucketOf_ev (a : Int) : Ev (fun k => spec_BucketOf.f k a) (bucketOf a) := by
  unfold spec_BucketOf.f bucketOf
  refine ev_bind0 (spec_clip_is a) ?_
  have := clipV_le a
  have h := spec_bucket_at 20 (clipV a) 0 (by omega) (by omega)
  rw [Nat.zero_add] at h
  exact h
def mixN (a : Int) : Nat := (clipV a * 40503 + 12345) % 65536 ^^^ (clipV a * 40503 + 12345) % 65536 / 256
theorem mixN_lt (a : Int) : mixN a < 65536 := by
  unfold mixN
  have h1 : (clipV a * 40503 + 12345) % 65536 < 2 ^ 16 := by omega
  have := Nat.xor_lt_two_pow (n := 16) h1 (show (clipV a * 40503 + 12345) % 65536 / 256 < 2 ^ 16 by omega)
  omega
theorem mix_val (a : Int) : Go.bits .xor .i64 (Int.tmod (wrap64 (wrap64 (((clipV a : Nat) : Int) * 40503) + 12345)) 65536) (wrap64 (Int.tdiv (Int.tmod (wrap64 (wrap64 (((clipV a : Nat) : Int) * 40503) + 12345)) 65536) 256)) = ((mixN a : Nat) : Int) := by
  have hc := clipV_le a
  have e : Int.tmod (wrap64 (wrap64 (((clipV a : Nat) : Int) * 40503) + 12345)) 65536 = (((clipV a * 40503 + 12345) % 65536 : Nat) : Int) := by
    rw [w64 (x := ((clipV a : Nat) : Int) * 40503) (by omega) (by omega), w64 (by omega) (by omega), Int.tmod_eq_emod_of_nonneg (by omega)]
    omega
  rw [e]
  clear e
  have e2 : wrap64 (Int.tdiv (((clipV a * 40503 + 12345) % 65536 : Nat) : Int) 256) = (((clipV a * 40503 + 12345) % 65536 / 256 : Nat) : Int) := by
    rw [Int.tdiv_eq_ediv_of_nonneg (by omega), w64 (by omega) (by omega)]
    omega
  rw [e2]
  clear e2
  exact xor64 _ _ (by omega) (by omega)
theorem spec_mix_is (a : Int) : spec_Mix.f a = some ((mixN a : Nat) : Int) := by
  unfold spec_Mix.f
  rw [spec_clip_is, Option.bind_some, mix_val]
def rankV (n : Int) : Int := if mixN n = 0 then 17 else ((Lib.ctz 64 (mixN n) : Nat) : Int) + 1
theorem spec_rank_at (m : Nat) : ∀ (j : Nat) (r : Int), 2 ^ j * (2 * m + 1) < 65536 → 0 ≤ r → r + j ≤ 1000 → Ev (fun k => spec_RankOf.l0 k ((2 ^ j * (2 * m + 1) : Nat) : Int) r) (r + (j : Int)) := by
  intro j
  induction j with
  | zero =>
    intro r hx h0 h1
    refine Ev.step (fun _ => rfl) ?_
    simp only [spec_RankOf.l0]
    refine ev_neg ?_ (ev_some (by omega))
    rw [Int.tmod_eq_emod_of_nonneg (by omega)]
    omega
  | succ j ih =>
    intro r hx h0 h1
    have e : 2 ^ (j + 1) * (2 * m + 1) = 2 * (2 ^ j * (2 * m + 1)) := by rw [Nat.pow_succ]; simp [Nat.mul_comm, Nat.mul_left_comm]
    rw [e] at hx ⊢
    have ih' := ih (r + 1) (by omega) (by omega) (by omega)
    generalize 2 ^ j * (2 * m + 1) = y at hx ih'
    refine Ev.step (fun _ => rfl) ?_
    simp only [spec_RankOf.l0]
    refine ev_pos ?_ ?_
    · rw [Int.tmod_eq_emod_of_nonneg (by omega)]
      omega
    · rw [Int.tdiv_eq_ediv_of_nonneg (by omega), w64 (x := ((2 * y : Nat) : Int) / 2) (by omega) (by omega), w64 (x := r + 1) (by omega) (by omega), show ((2 * y : Nat) : Int) / 2 = (y : Int) by omega, show r + ((j + 1 : Nat) : Int) = r + 1 + (j : Int) by omega]
      exact ih'
theorem rank_lt (n : Int) (h : mixN n ≠ 0) : ∃ m, mixN n = 2 ^ Lib.ctz 64 (mixN n) * (2 * m + 1) ∧ Lib.ctz 64 (mixN n) < 64 := by
  have h2 := mixN_lt n
  have := Lib.ctzFrom_spec 64 (mixN n) (by omega) (by omega)
  unfold Lib.ctz
  rw [if_neg h]
  exact this
theorem spec_rank_ev (n : Int) : Ev (fun k => spec_RankOf.f k n) (rankV n) := by
  unfold spec_RankOf.f rankV
  refine ev_bind0 (spec_mix_is n) ?_
  by_cases h : mixN n = 0
  · rw [if_pos h]
    exact ev_pos (by omega) (ev_some rfl)
  · rw [if_neg h]
    refine ev_neg (by omega) ?_
    obtain ⟨m, hm, hk⟩ := rank_lt n h
    have hl := mixN_lt n
    have e := spec_rank_at m (Lib.ctz 64 (mixN n)) 1 (by rw [← hm]; exact hl) (by omega) (by omega)
    rw [← hm] at e
    rw [Int.add_comm]
    exact e
def bkN (v : Int) : Nat := (bl 20 (clipV v) + 2) / 3
theorem bucketOf_is (v : Int) : bucketOf v = ((bkN v : Nat) : Int) := rfl
theorem bkN_lt (v : Int) : bkN v < 8 := by
  have := bl_le 20 (clipV v)
  unfold bkN
  omega
theorem rankV_range (v : Int) : 1 ≤ rankV v ∧ rankV v ≤ 17 := by
  unfold rankV
  by_cases h : mixN v = 0
  · rw [if_pos h]; omega
  · rw [if_neg h]
    obtain ⟨m, hm, hk⟩ := rank_lt v h
    have hl := mixN_lt v
    have hp : Lib.ctz 64 (mixN v) < 16 := by
      rcases Nat.lt_or_ge (Lib.ctz 64 (mixN v)) 16 with h' | h'
      · exact h'
      · have h2 : 2 ^ 16 ≤ 2 ^ Lib.ctz 64 (mixN v) := Nat.pow_le_pow_right (by omega) h'
        have h3 : 2 ^ Lib.ctz 64 (mixN v) * 1 ≤ 2 ^ Lib.ctz 64 (mixN v) * (2 * m + 1) := Nat.mul_le_mul_left _ (by omega)
        omega
    omega
theorem spec_add_is {a b : Int} (ha : 0 ≤ a ∧ a ≤ 1000000000) (hb : 0 ≤ b ∧ b ≤ 1000000000) : spec_Add.f a b = some (sadd a b) := by
  have c : ∀ x : Int, 0 ≤ x ∧ x ≤ 1000000000 → spec_l2Clip.f x 1000000000 = some x := by
    intro x hx
    unfold spec_l2Clip.f spec_l1Min.f spec_l1Max.f
    by_cases h : x < 1000000000
    · simp only [if_pos h, Option.bind_some]
      split
      · congr 1; omega
      · rfl
    · simp only [if_neg h, Option.bind_some]
      rw [if_neg (by omega), show x = 1000000000 by omega]
      rfl
  unfold spec_Add.f spec_l1Min.f
  rw [c a ha, c b hb, Option.bind_some, Option.bind_some, w64 (x := a + b) (by omega) (by omega)]
  unfold sadd
  by_cases h : a + b < 1000000000
  · rw [if_pos h, if_neg (by omega)]
    rfl
  · rw [if_neg h]
    split
    · rfl
    · simp only [Option.bind_some]
      congr 1
      omega
theorem spec_copy_at (c s lo hi : Int) (h r : List Int) (R : List (List Int)) (hR : R.length ≤ 1048576) (hx : ∀ x ∈ R, x.length ≤ 1048576) (d : Nat) : ∀ i : Nat, i + d = R.length →
    Ev (fun k => spec_l3Copy.l0 k (i : Int) c s lo hi h r R c s lo hi h r (R.take i)) (c, s, lo, hi, h, r, R) := by
  induction d with
  | zero =>
    intro i hi'
    refine Ev.step (fun _ => rfl) ?_
    simp only [spec_l3Copy.l0]
    exact ev_neg (by omega) (ev_some (by rw [show i = R.length by omega, List.take_length]))
  | succ d ih =>
    intro i hi'
    refine Ev.step (fun _ => rfl) ?_
    simp only [spec_l3Copy.l0]
    have hiR : i < R.length := by omega
    have hl := hx _ (List.getElem_mem hiR)
    rw [wsucc (by omega), rdR_get hiR]
    simp only [Option.bind_some]
    refine ev_pos (by omega) (ev_pos (by omega) (ev_pos (by simp; omega) (ev_pos (by simp; omega) ?_)))
    rw [List.nil_append, ← List.take_succ_eq_append_getElem hiR]
    exact ih (i + 1) (by omega)
theorem spec_copy_ev (c s lo hi : Int) (h r : List Int) (R : List (List Int)) (hh : h.length ≤ 1048576) (hr : r.length ≤ 1048576) (hR : R.length ≤ 1048576) (hx : ∀ x ∈ R, x.length ≤ 1048576) :
    Ev (fun k => spec_l3Copy.f k c s lo hi h r R) (c, s, lo, hi, h, r, R) := by
  unfold spec_l3Copy.f
  simp only [Option.bind_some]
  refine ev_pos (by simp; omega) (ev_pos (by simp; omega) ?_)
  have := spec_copy_at c s lo hi h r R hR hx R.length 0 (by omega)
  simpa using this
theorem two_rows {R : List (List Int)} (h : R.length = 2) : ∃ p q, R = [p, q] := by
  match R, h with
  | [p, q], _ => exact ⟨p, q, rfl⟩
theorem skOk_su {c s lo hi : Int} {h r p q : List Int} (ok : SkOk c s lo hi h r [p, q]) : Su.Ok ⟨c, s, lo, hi, h, r, p, q⟩ := by
  obtain ⟨h1, h2, h3, h4, h5, h6, h7, h8, h9, h10, h11⟩ := ok
  exact ⟨h1, h2, h3, h4, h5, h7, h8, h9, h10, h11⟩
theorem su_skOk {u : Su} (ok : u.Ok) : SkOk u.c u.s u.mn u.mx u.h u.r [u.p, u.q] := ⟨ok.hc, ok.hs, ok.hmn, ok.hmx, ok.hle, rfl, ok.hz, ok.hh, ok.hr, ok.hp, ok.hq⟩
theorem lok_getD {xs : List Int} {n : Nat} {most : Int} {z : Prop} (h : LOk xs n most z) {i : Nat} (hi : i < n) : 0 ≤ xs.getD i 0 ∧ xs.getD i 0 ≤ most := by
  have h1 : i < xs.length := by rw [h.1]; exact hi
  rw [List.getD_eq_getElem?_getD, List.getElem?_eq_getElem h1]
  exact (h.2 _ (List.getElem_mem h1)).1
def suPut (u : Su) (v : Int) : Su := Su.ins bkN mixN rankV u v
def suOut (u : Su) (b : Bool) : Int × Int × Int × Int × List Int × List Int × List (List Int) × Bool := (u.c, u.s, u.mn, u.mx, u.h, u.r, [u.p, u.q], b)
noncomputable def insV (c s lo hi : Int) (h r : List Int) (R : List (List Int)) (v : Int) : Int × Int × Int × Int × List Int × List Int × List (List Int) × Bool :=
  if skOk c s lo hi h r R = true ∧ 0 ≤ v ∧ v ≤ 1000000 then suOut (suPut ⟨c, s, lo, hi, h, r, rd_L2 R 0, rd_L2 R 1⟩ v) true else (c, s, lo, hi, h, r, R, false)
theorem spec_g_ev (u : Su) (ok : u.Ok) (v : Int) (hv : 0 ≤ v ∧ v ≤ 1000000) : Ev (fun k => spec_Insert.g k u.c u.s u.mn u.mx u.h u.r [u.p, u.q] v) (suOut (suPut u v) true) := by
  have hb := bkN_lt v
  have hm := mixN_lt v
  have q0 : ∀ p q : List Int, [p, q].getD 0 [] = p := fun _ _ => rfl
  have q1 : ∀ p q : List Int, [p, q].getD 1 [] = q := fun _ _ => rfl
  have emx : ∀ x y : Int, spec_l1Max.f x y = some (hi2 x y) := by
    intro x y
    unfold spec_l1Max.f hi2
    split <;> rfl
  have emn : ∀ x y : Int, spec_l1Min.f x y = some (lo2 x y) := by
    intro x y
    unfold spec_l1Min.f lo2
    split <;> rfl
  unfold spec_Insert.g
  refine ev_bind0 (spec_add_is ok.hc (by omega)) (ev_bind0 (spec_add_is ok.hs (by omega)) ((ev_bind0 (emn _ _) (ev_bind0 (emx _ _) (Ev.bind (spec_bucketOf_ev v) (ev_bind0 (spec_mix_is v) ?_))))))
  rw [bucketOf_is]
  simp only [Int.toNat_natCast, q0, q1]
  refine ev_bind0 (spec_add_is (lok_getD ok.hh hb) (by omega)) (Ev.bind (spec_rank_ev v) (ev_bind0 (emx _ _) (ev_bind0 (spec_add_is (lok_getD ok.hp (by omega)) (by omega)) (ev_bind0 (spec_add_is (lok_getD ok.hq (by omega)) (by omega)) (ev_pos ⟨ok.hh.1, ok.hr.1, rfl, ok.hp.1, ok.hq.1, by omega, by omega, by omega, by omega⟩ (ev_some ?_))))))
  have hz := ok.hz
  have hle := ok.hle
  have hmn := ok.hmn
  simp only [suPut, suOut, Su.ins, upd, Nat.zero_add, Nat.add_comm 1]
theorem spec_insert_ev (c s lo hi : Int) (h r : List Int) (R : List (List Int)) (v : Int) (hh : h.length ≤ 1048576) (hr : r.length ≤ 1048576) (hR : R.length ≤ 1048576) (hx : ∀ x ∈ R, x.length ≤ 1048576) :
    Ev (fun k => spec_Insert.f k c s lo hi h r R v) (insV c s lo hi h r R v) := by
  unfold spec_Insert.f insV
  refine Ev.bind (spec_copy_ev c s lo hi h r R hh hr hR hx) (ev_pos ⟨rfl, rfl, rfl, rfl, rfl, rfl, rfl⟩ (Ev.bind (spec_sketchOk_ev c s lo hi h r R) ?_))
  cases ok : skOk c s lo hi h r R with
  | false =>
    rw [if_neg (by simp)]
    exact ev_neg (by simp) (ev_some rfl)
  | true =>
    have hok := skOk_true.1 ok
    obtain ⟨p, q, rfl⟩ := two_rows hok.2.2.2.2.2.1
    refine ev_pos (by trivial) (ev_bind0 (l1In_is v 0 1000000) ?_)
    by_cases hv : 0 ≤ v ∧ v ≤ 1000000
    · rw [if_pos ⟨by trivial, hv⟩]
      exact ev_pos (by simp [hv]) (spec_g_ev ⟨c, s, lo, hi, h, r, p, q⟩ (skOk_su hok) v hv)
    · rw [if_neg (fun e => hv e.2)]
      exact ev_neg (by simp; omega) (ev_some rfl)
def suT (u : Su) : Int × Int × Int × Int × List Int × List Int × List (List Int) := (u.c, u.s, u.mn, u.mx, u.h, u.r, [u.p, u.q])
def suInsO (u : Su) (v : Int) : Su := Su.insO bkN mixN rankV u v
def suOf (l : List Int) : Su := Su.of bkN mixN rankV l
theorem rk17 : ∀ v, 0 ≤ rankV v ∧ rankV v ≤ 17 := fun v => by have := rankV_range v; omega
theorem suInsO_ok {u : Su} (h : u.Ok) (v : Int) : (suInsO u v).Ok := Su.insO_ok bkN mixN rankV rk17 h v
theorem suOf_ok (l : List Int) : (suOf l).Ok := Su.of_ok bkN mixN rankV rk17 l
theorem ins_at {u : Su} (h : u.Ok) (v : Int) : ∃ t, insV u.c u.s u.mn u.mx u.h u.r [u.p, u.q] v = suOut (suInsO u v) t := by
  unfold insV suInsO Su.insO
  rw [skOk_true.2 (su_skOk h)]
  by_cases hv : 0 ≤ v ∧ v ≤ 1000000
  · rw [if_pos ⟨rfl, hv⟩, if_pos hv]
    exact ⟨true, rfl⟩
  · rw [if_neg (fun e => hv e.2), if_neg hv]
    exact ⟨false, rfl⟩
theorem su_lens {u : Su} (h : u.Ok) : u.h.length ≤ 1048576 ∧ u.r.length ≤ 1048576 ∧ [u.p, u.q].length ≤ 1048576 ∧ ∀ x ∈ [u.p, u.q], x.length ≤ 1048576 := by
  have h1 := h.hh.1
  have h2 := h.hr.1
  have h3 := h.hp.1
  have h4 := h.hq.1
  refine ⟨by omega, by omega, by simp, fun x hx => ?_⟩
  simp only [List.mem_cons, List.not_mem_nil, or_false] at hx
  rcases hx with rfl | rfl <;> omega
theorem spec_sketched_at (l : List Int) (hl : l.length ≤ 1048576) (d : Nat) : ∀ (i : Nat) (u : Su), u.Ok → i + d = l.length →
    Ev (fun k => spec_Sketched.l0 k l (i : Int) u.c u.s u.mn u.mx u.h u.r [u.p, u.q]) (suT ((l.drop i).foldl suInsO u)) := by
  induction d with
  | zero =>
    intro i u hu hi
    refine Ev.step (fun _ => rfl) ?_
    simp only [spec_Sketched.l0]
    exact ev_neg (by omega) (ev_some (by rw [List.drop_of_length_le (by omega)]; rfl))
  | succ d ih =>
    intro i u hu hi
    refine Ev.step (fun _ => rfl) ?_
    simp only [spec_Sketched.l0]
    have hil : i < l.length := by omega
    obtain ⟨b1, b2, b3, b4⟩ := su_lens hu
    obtain ⟨t, e⟩ := ins_at hu (rd l (i : Int))
    have hins := spec_insert_ev u.c u.s u.mn u.mx u.h u.r [u.p, u.q] (rd l (i : Int)) b1 b2 b3 b4
    rw [e] at hins
    refine ev_pos (by omega) (ev_pos (by omega) (Ev.bind hins ?_))
    rw [wsucc (by omega)]
    have := ih (i + 1) (suInsO u (rd l (i : Int))) (suInsO_ok hu _) (by omega)
    rw [List.drop_eq_getElem_cons hil, List.foldl_cons, ← rd_get hil]
    exact this
theorem spec_sketched_ev (l : List Int) (hl : l.length ≤ 1048576) : Ev (fun k => spec_Sketched.f k l) (suT (suOf l)) := by
  unfold spec_Sketched.f
  refine ev_bind0 rfl ?_
  have := spec_sketched_at l hl l.length 0 Su.new Su.new_ok (by omega)
  exact this
theorem pick_at (l : List Int) (hl : l.length ≤ 281474976702464) (p : Nat) (hp : p ≤ l.length) (r : Int) (xs : List Int) (h0 : 0 < xs.length) (h1 : xs.length ≤ 256) :
    ∃ (v : Int) (q : Nat) (s : Int), spec_l1PickInt.f l p r xs = some (v, (q : Int), s) ∧ q ≤ l.length := by
  obtain ⟨v, q, s, e, hv, hq⟩ := l1Below_is l hl p hp r xs.length h0 h1
  refine ⟨rd xs (v : Int), q, s, ?_, hq⟩
  unfold spec_l1PickInt.f
  rw [e]
  simp only [Option.bind_some]
  rw [if_pos (by omega), if_pos (by omega)]
theorem l3Values_at (l : List Int) (hl : l.length ≤ 281474976702464) (n : Nat) (hn : n ≤ 6) (d : Nat) : ∀ (i p : Nat) (r : Int) (xs : List Int), i + d = n → p ≤ l.length → xs.length = i →
    ∃ (ys : List Int) (q : Nat) (s : Int), Ev (fun k => spec_l3Values.l0 k xs (n : Int) (i : Int) l (p : Int) r) (ys, (q : Int), s) ∧ ys.length = n ∧ q ≤ l.length := by
  induction d with
  | zero =>
    intro i p r xs hi hp hx
    refine ⟨xs, p, r, Ev.step (fun _ => rfl) ?_, by omega, hp⟩
    simp only [spec_l3Values.l0]
    exact ev_neg (by omega) (ev_some rfl)
  | succ d ih =>
    intro i p r xs hi hp hx
    obtain ⟨v, q, s, e, hv, hq⟩ := l1Byte_is l hl p hp r
    obtain ⟨v2, q2, s2, e2, hq2⟩ := pick_at l hl q hq s [0, 1, 7, 8, 100, 5000, 1000000, (v : Int), 1000001, (-1)] (by simp) (by simp)
    obtain ⟨ys, q3, s3, h3, hy, hq3⟩ := ih (i + 1) q2 s2 (xs ++ [v2]) (by omega) hq2 (by simp; omega)
    refine ⟨ys, q3, s3, Ev.step (fun _ => rfl) ?_, hy, hq3⟩
    simp only [spec_l3Values.l0]
    refine ev_pos (by omega) (ev_bind0 e (ev_bind0 e2 (ev_pos (by omega) ?_)))
    rw [wsucc (by omega)]
    exact h3
theorem once_at (l : List Int) (hl : l.length ≤ 281474976702464) (p : Nat) (hp : p ≤ l.length) (r : Int) (n : Nat) (h0 : 0 < n) (h1 : n ≤ 256) :
    ∃ (b : Bool) (q : Nat) (s : Int), spec_l1Once.f l p r (n : Int) = some (b, (q : Int), s) ∧ q ≤ l.length := by
  obtain ⟨v, q, s, e, hv, hq⟩ := l1Below_is l hl p hp r n h0 h1
  refine ⟨((v : Int) == 0), q, s, ?_, hq⟩
  unfold spec_l1Once.f
  rw [e]
  rfl
theorem l3Values_ev (l : List Int) (hl : l.length ≤ 281474976702464) (p : Nat) (hp : p ≤ l.length) (r : Int) :
    ∃ (ys : List Int) (q : Nat) (s : Int), Ev (fun k => spec_l3Values.f k l (p : Int) r) (ys, (q : Int), s) ∧ ys.length ≤ 5 ∧ q ≤ l.length := by
  obtain ⟨n, q, s1, e1, hn, hq⟩ := l1Below_is l hl p hp r 6 (by omega) (by omega)
  obtain ⟨ys, q3, s3, h3, hy, hq3⟩ := l3Values_at l hl n (by omega) n 0 q s1 [] (by omega) hq rfl
  refine ⟨ys, q3, s3, ?_, by omega, hq3⟩
  unfold spec_l3Values.f
  exact ev_bind0 e1 h3
theorem l3Right_ev (l : List Int) (hl : l.length ≤ 281474976702464) (p : Nat) (hp : p ≤ l.length) (r : Int) :
    ∃ (c s mn mx : Int) (h g a b : List Int) (q : Nat) (z : Int), Ev (fun k => spec_l3Right.f k l (p : Int) r) (c, s, mn, mx, h, g, [a, b], (q : Int), z) ∧ h.length = 8 ∧ g.length = 8 ∧ a.length = 4 ∧ b.length = 4 ∧ q ≤ l.length := by
  obtain ⟨ys, q1, s1, h1, hy, hq1⟩ := l3Values_ev l hl p hp r
  obtain ⟨o, q2, s2, h2, hq2⟩ := once_at l hl q1 hq1 s1 16 (by omega) (by omega)
  obtain ⟨v, q3, s3, h3, _, hq3⟩ := l1Below_is l hl q2 hq2 s2 2 (by omega) (by omega)
  have ok := suOf_ok ys
  have hs := spec_sketched_ev ys (by omega)
  have l8 := ok.hh.1
  cases o with
  | false =>
    refine ⟨(suOf ys).c, (suOf ys).s, (suOf ys).mn, (suOf ys).mx, (suOf ys).h, (suOf ys).r, (suOf ys).p, (suOf ys).q, q2, s2, ?_, l8, ok.hr.1, ok.hp.1, ok.hq.1, hq2⟩
    unfold spec_l3Right.f
    exact Ev.bind h1 (Ev.bind hs (ev_bind0 h2 (ev_neg (by simp) (ev_some rfl))))
  | true =>
    by_cases hc : (suOf ys).c > 0
    · refine ⟨wrap64 (1000000000 - (v : Int)), 999999997, (suOf ys).mn, (suOf ys).mx, (suOf ys).h.set 3 1000000000, (suOf ys).r, (suOf ys).p, (suOf ys).q, q3, s3, ?_, ?_, ok.hr.1, ok.hp.1, ok.hq.1, hq3⟩
      · unfold spec_l3Right.f
        exact Ev.bind h1 (Ev.bind hs (ev_bind0 h2 (ev_pos rfl (ev_pos hc (ev_bind0 h3 (ev_pos (by simp only [suT]; omega) (ev_some rfl)))))))
      · rw [List.length_set]
        exact l8
    · refine ⟨(suOf ys).c, (suOf ys).s, (suOf ys).mn, (suOf ys).mx, (suOf ys).h, (suOf ys).r, (suOf ys).p, (suOf ys).q, q2, s2, ?_, l8, ok.hr.1, ok.hp.1, ok.hq.1, hq2⟩
      unfold spec_l3Right.f
      exact Ev.bind h1 (Ev.bind hs (ev_bind0 h2 (ev_pos rfl (ev_neg hc (ev_some rfl)))))
theorem l3Draw_ev (l : List Int) (hl : l.length ≤ 281474976702464) (p : Nat) (hp : p ≤ l.length) (r : Int) :
    ∃ (c s mn mx : Int) (h g : List Int) (R : List (List Int)) (q : Nat) (z : Int), Ev (fun k => spec_l3Draw.f k l (p : Int) r) (c, s, mn, mx, h, g, R, (q : Int), z) ∧ h.length ≤ 9 ∧ g.length ≤ 9 ∧ R.length ≤ 2 ∧ (∀ x ∈ R, x.length ≤ 9) ∧ q ≤ l.length := by
  obtain ⟨c, s, mn, mx, h, g, a, b, q1, s1, h1, lh, lg, la, lb, hq1⟩ := l3Right_ev l hl p hp r
  obtain ⟨v, q2, s2, h2, hv, hq2⟩ := l1Below_is l hl q1 hq1 s1 16 (by omega) (by omega)
  have hR : ∀ x ∈ [a, b], x.length ≤ 9 := fun x hx => by
    simp only [List.mem_cons, List.not_mem_nil, or_false] at hx
    rcases hx with rfl | rfl <;> omega
  by_cases v0 : (v : Int) = 0
  · obtain ⟨x, q3, s3, h3, hq3⟩ := pick_at l hl q2 hq2 s2 [(-1), 1000001, 500] (by simp) (by simp)
    refine ⟨c, s, x, mx, h, g, [a, b], q3, s3, ?_, show h.length ≤ 9 by omega, show g.length ≤ 9 by omega, show [a, b].length ≤ 2 by simp, hR, hq3⟩
    unfold spec_l3Draw.f
    exact Ev.bind h1 (ev_bind0 h2 (ev_pos v0 (ev_bind0 h3 (ev_some rfl))))
  by_cases v1 : (v : Int) = 1
  · obtain ⟨y, q3, s3, h3, hy, hq3⟩ := l1Below_is l hl q2 hq2 s2 8 (by omega) (by omega)
    obtain ⟨x, q4, s4, h4, hq4⟩ := pick_at l hl q3 hq3 s3 [(-1), 17, 18] (by simp) (by simp)
    refine ⟨c, s, mn, mx, h, g.set y x, [a, b], q4, s4, ?_, show h.length ≤ 9 by omega, show (g.set y x).length ≤ 9 by rw [List.length_set]; omega, show [a, b].length ≤ 2 by simp, hR, hq4⟩
    unfold spec_l3Draw.f
    exact Ev.bind h1 (ev_bind0 h2 (ev_neg v0 (ev_pos v1 (ev_bind0 h3 (ev_bind0 h4 (ev_pos (by omega) (ev_pos (show (y : Int) < (g.length : Int) by omega) (ev_some rfl))))))))
  by_cases v2 : (v : Int) = 2
  · refine ⟨c, s, mn, mx, h ++ [0], g, [a, b], q2, s2, ?_, show (h ++ [0]).length ≤ 9 by simp; omega, show g.length ≤ 9 by omega, show [a, b].length ≤ 2 by simp, hR, hq2⟩
    unfold spec_l3Draw.f
    exact Ev.bind h1 (ev_bind0 h2 (ev_neg v0 (ev_neg v1 (ev_pos v2 (ev_pos (show h.length < 17592186044416 by omega) (ev_some rfl))))))
  by_cases v3 : (v : Int) = 3
  · refine ⟨c, s, mn, mx, h, g, [a, b].take 1, q2, s2, ?_, show h.length ≤ 9 by omega, show g.length ≤ 9 by omega, show ([a, b].take 1).length ≤ 2 by simp, fun x hx => hR x (List.mem_of_mem_take hx), hq2⟩
    unfold spec_l3Draw.f
    exact Ev.bind h1 (ev_bind0 h2 (ev_neg v0 (ev_neg v1 (ev_neg v2 (ev_pos v3 (ev_pos (by simp) (ev_some rfl)))))))
  by_cases v4 : (v : Int) = 4
  · obtain ⟨x, q3, s3, h3, hq3⟩ := pick_at l hl q2 hq2 s2 [0, (-1), 1000000001] (by simp) (by simp)
    refine ⟨x, s, mn, mx, h, g, [a, b], q3, s3, ?_, show h.length ≤ 9 by omega, show g.length ≤ 9 by omega, show [a, b].length ≤ 2 by simp, hR, hq3⟩
    unfold spec_l3Draw.f
    exact Ev.bind h1 (ev_bind0 h2 (ev_neg v0 (ev_neg v1 (ev_neg v2 (ev_neg v3 (ev_pos v4 (ev_bind0 h3 (ev_some rfl))))))))
  by_cases v5 : (v : Int) = 5
  · obtain ⟨x, q3, s3, h3, hq3⟩ := pick_at l hl q2 hq2 s2 [(-1), 3, 1000000001] (by simp) (by simp)
    refine ⟨c, s, mn, mx, h, g, [a, b].set 1 (b.set 2 x), q3, s3, ?_, show h.length ≤ 9 by omega, show g.length ≤ 9 by omega, show ([a, b].set 1 (b.set 2 x)).length ≤ 2 by simp, fun y hy => ?_, hq3⟩
    · unfold spec_l3Draw.f
      exact Ev.bind h1 (ev_bind0 h2 (ev_neg v0 (ev_neg v1 (ev_neg v2 (ev_neg v3 (ev_neg v4 (ev_pos v5 (ev_pos (by simp) (ev_bind0 h3 (ev_pos (show (2 : Int) < (b.length : Int) by omega) (ev_some rfl)))))))))))
    · rcases List.mem_or_eq_of_mem_set hy with hy | rfl
      · exact hR y hy
      · rw [List.length_set]; omega
  · refine ⟨c, s, mn, mx, h, g, [a, b], q2, s2, ?_, show h.length ≤ 9 by omega, show g.length ≤ 9 by omega, show [a, b].length ≤ 2 by simp, hR, hq2⟩
    unfold spec_l3Draw.f
    exact Ev.bind h1 (ev_bind0 h2 (ev_neg v0 (ev_neg v1 (ev_neg v2 (ev_neg v3 (ev_neg v4 (ev_neg v5 (ev_some rfl))))))))
def lowV (i : Nat) : Int := if i = 0 then 0 else ((8 ^ (i - 1) : Nat) : Int)
theorem spec_low_all : ∀ i : Fin 8, spec_Low.f ((i.val : Nat) : Int) = some (lowV i.val) := by decide +kernel
theorem impl_low_all : ∀ i : Fin 8, impl_Low.f ((i.val : Nat) : Int) = some (lowV i.val) := by decide +kernel
theorem spec_low_is (i : Nat) (h : i < 8) : spec_Low.f (i : Int) = some (lowV i) := spec_low_all ⟨i, h⟩
theorem impl_low_is (i : Nat) (h : i < 8) : impl_Low.f (i : Int) = some (lowV i) := impl_low_all ⟨i, h⟩
theorem lowV_range : ∀ i : Fin 8, 0 ≤ lowV i.val ∧ lowV i.val ≤ 262144 := by decide +kernel
def qFrom (h : List Int) (p all : Int) : Nat → Nat → Int → Int × Int
  | 0, _, _ => (0, 0)
  | d + 1, i, acc =>
    if rd h (i : Int) > 0 ∧ (acc + rd h (i : Int)) * 1000 ≥ p * all then (lowV i, if i = 7 then 1000000 else lowV (i + 1) - 1)
    else qFrom h p all d (i + 1) (acc + rd h (i : Int))
noncomputable def quantileV (c s mn mx : Int) (h r : List Int) (R : List (List Int)) (p : Int) : Int × Int :=
  if skOk c s mn mx h r R = true ∧ c ≠ 0 ∧ 1 ≤ p ∧ p ≤ 1000 then qFrom h p h.sum 8 0 0 else (0, 0)
theorem qsum_at (h : List Int) (hl : h.length = 8) (hb : ∀ x ∈ h, 0 ≤ x ∧ x ≤ 1000000000) (d : Nat) : ∀ (i : Nat) (t : Int), i + d = 8 → 0 ≤ t → t ≤ (i : Int) * 1000000000 → Ev (fun k => spec_l4Sum.l0 k h t (i : Int)) (t + (h.drop i).sum) := by
  induction d with
  | zero =>
    intro i t hi h0 h1
    refine Ev.step (fun _ => rfl) ?_
    simp only [spec_l4Sum.l0]
    refine ev_neg (by omega) (ev_some ?_)
    rw [List.drop_of_length_le (by omega), List.sum_nil, Int.add_zero]
  | succ d ih =>
    intro i t hi h0 h1
    have hg : i < h.length := by omega
    have hx := hb h[i] (List.getElem_mem hg)
    refine Ev.step (fun _ => rfl) ?_
    simp only [spec_l4Sum.l0]
    rw [wsucc (by omega), rd_get hg, w64 (x := t + h[i]) (by omega) (by omega), List.drop_eq_getElem_cons hg, List.sum_cons, ← Int.add_assoc]
    exact ev_pos (by omega) (ev_pos (by omega) (ih (i + 1) _ (by omega) (by omega) (by omega)))
theorem impl_qsum_at (c s mn mx : Int) (h r : List Int) (R : List (List Int)) (p : Int) (hl : h.length = 8) (hb : ∀ x ∈ h, 0 ≤ x ∧ x ≤ 1000000000) (v : Int × Int) (d : Nat) : ∀ (i : Nat) (t : Int), i + d = 8 → 0 ≤ t → t ≤ (i : Int) * 1000000000 →
    Ev (fun k => impl_Quantile.l1 k p (t + (h.drop i).sum) 0 h (h.length : Int) 0) v → Ev (fun k => impl_Quantile.l0 k p t h (h.length : Int) (i : Int) c s mn mx h r R) v := by
  induction d with
  | zero =>
    intro i t hi h0 h1 hv
    refine Ev.step (fun _ => rfl) ?_
    simp only [impl_Quantile.l0]
    refine ev_neg (by omega) ?_
    rw [List.drop_of_length_le (by omega), List.sum_nil, Int.add_zero] at hv
    exact hv
  | succ d ih =>
    intro i t hi h0 h1 hv
    have hg : i < h.length := by omega
    have hx := hb h[i] (List.getElem_mem hg)
    refine Ev.step (fun _ => rfl) ?_
    simp only [impl_Quantile.l0]
    rw [wsucc (by omega), rd_get hg, w64 (x := t + h[i]) (by omega) (by omega)]
    rw [List.drop_eq_getElem_cons hg, List.sum_cons, ← Int.add_assoc] at hv
    exact ev_pos (by omega) (ev_pos (by omega) (ev_pos (by omega) (ih (i + 1) _ (by omega) (by omega) (by omega) hv)))
theorem prod_bd (p all : Int) (hp : 1 ≤ p ∧ p ≤ 1000) (ha : 0 ≤ all ∧ all ≤ 8000000000) : 0 ≤ p * all ∧ p * all ≤ 8000000000000 := by
  constructor
  · exact Int.mul_nonneg (by omega) ha.1
  · have := Int.mul_le_mul hp.2 ha.2 ha.1 (show (0 : Int) ≤ 1000 by omega)
    omega
theorem spec_q_at (c s mn mx : Int) (h r : List Int) (R : List (List Int)) (p all : Int) (hp : 1 ≤ p ∧ p ≤ 1000) (ha : 0 ≤ all ∧ all ≤ 8000000000) (hl : h.length = 8) (hb : ∀ x ∈ h, 0 ≤ x ∧ x ≤ 1000000000) (d : Nat) : ∀ (i : Nat) (t : Int), i + d = 8 → 0 ≤ t → t ≤ (i : Int) * 1000000000 →
    Ev (fun k => spec_Quantile.l0 k p all t (i : Int) c s mn mx h r R) (qFrom h p all d i t) := by
  have hpa := prod_bd p all hp ha
  induction d with
  | zero =>
    intro i t hi h0 h1
    refine Ev.step (fun _ => rfl) ?_
    simp only [spec_Quantile.l0]
    exact ev_neg (by omega) (ev_some rfl)
  | succ d ih =>
    intro i t hi h0 h1
    have hg : i < h.length := by omega
    have hx := hb h[i] (List.getElem_mem hg)
    have hrec := ih (i + 1) (t + h[i]) (by omega) (by omega) (by omega)
    refine Ev.step (fun _ => rfl) ?_
    simp only [spec_Quantile.l0]
    unfold qFrom
    rw [rd_get hg, w64 (x := t + h[i]) (by omega) (by omega), w64 (x := (t + h[i]) * 1000) (by omega) (by omega), w64 (x := p * all) (by omega) (by omega)]
    refine ev_pos (by omega) (ev_pos (by omega) (ev_pos (by omega) ?_))
    have go : ∀ b : Bool, (b = true → Ev (fun k => spec_Quantile.j2 k p all (t + h[i]) (i : Int) b c s mn mx h r R) (lowV i, if i = 7 then 1000000 else lowV (i + 1) - 1)) ∧ (b = false → Ev (fun k => spec_Quantile.j2 k p all (t + h[i]) (i : Int) b c s mn mx h r R) (qFrom h p all d (i + 1) (t + h[i]))) := by
      intro b
      constructor
      · intro hb1
        refine Ev.step (fun _ => rfl) ?_
        simp only [spec_Quantile.j2]
        refine ev_pos hb1 ?_
        by_cases h7 : i = 7
        · exact ev_pos (by omega) (ev_bind0 (spec_low_is i (by omega)) (ev_some (by rw [if_pos h7])))
        · have hlr : 0 ≤ lowV (i + 1) ∧ lowV (i + 1) ≤ 262144 := lowV_range ⟨i + 1, by omega⟩
          refine ev_neg (by omega) (ev_bind0 (spec_low_is i (by omega)) ?_)
          rw [wsucc (by omega)]
          refine ev_bind0 (spec_low_is (i + 1) (by omega)) (ev_some ?_)
          rw [if_neg h7, w64 (by omega) (by omega)]
      · intro hb0
        refine Ev.step (fun _ => rfl) ?_
        simp only [spec_Quantile.j2]
        refine ev_neg (by rw [hb0]; exact Bool.false_ne_true) ?_
        rw [wsucc (by omega)]
        exact hrec
    by_cases g1 : h[i] > 0
    · refine ev_pos g1 ?_
      by_cases g2 : (t + h[i]) * 1000 ≥ p * all
      · rw [if_pos ⟨g1, g2⟩]
        exact (go _).1 (decide_eq_true g2)
      · rw [if_neg fun q => g2 q.2]
        exact (go _).2 (decide_eq_false g2)
    · refine ev_neg g1 ?_
      rw [if_neg fun q => g1 q.1]
      exact (go _).2 rfl
theorem impl_q_at (h : List Int) (p all : Int) (hp : 1 ≤ p ∧ p ≤ 1000) (ha : 0 ≤ all ∧ all ≤ 8000000000) (hl : h.length = 8) (hb : ∀ x ∈ h, 0 ≤ x ∧ x ≤ 1000000000) (d : Nat) : ∀ (i : Nat) (t : Int), i + d = 8 → 0 ≤ t → t ≤ (i : Int) * 1000000000 →
    Ev (fun k => impl_Quantile.l1 k p all t h (h.length : Int) (i : Int)) (qFrom h p all d i t) := by
  have hpa := prod_bd p all hp ha
  induction d with
  | zero =>
    intro i t hi h0 h1
    refine Ev.step (fun _ => rfl) ?_
    simp only [impl_Quantile.l1]
    exact ev_neg (by omega) (ev_some rfl)
  | succ d ih =>
    intro i t hi h0 h1
    have hg : i < h.length := by omega
    have hx := hb h[i] (List.getElem_mem hg)
    have hrec := ih (i + 1) (t + h[i]) (by omega) (by omega) (by omega)
    refine Ev.step (fun _ => rfl) ?_
    simp only [impl_Quantile.l1]
    unfold qFrom
    rw [rd_get hg, w64 (x := t + h[i]) (by omega) (by omega), w64 (x := (t + h[i]) * 1000) (by omega) (by omega), w64 (x := p * all) (by omega) (by omega)]
    refine ev_pos (by omega) (ev_pos (by omega) (ev_pos (by omega) ?_))
    have go : ∀ b : Bool, (b = false → Ev (fun k => impl_Quantile.j3 k p all (t + h[i]) (i : Int) h (h.length : Int) (i : Int) b) (lowV i, if i = 7 then 1000000 else lowV (i + 1) - 1)) ∧ (b = true → Ev (fun k => impl_Quantile.j3 k p all (t + h[i]) (i : Int) h (h.length : Int) (i : Int) b) (qFrom h p all d (i + 1) (t + h[i]))) := by
      intro b
      constructor
      · intro hb0
        refine Ev.step (fun _ => rfl) ?_
        simp only [impl_Quantile.j3]
        refine ev_neg (by rw [hb0]; exact Bool.false_ne_true) ?_
        by_cases h7 : i = 7
        · exact ev_pos (by omega) (ev_bind0 (impl_low_is i (by omega)) (ev_some (by rw [if_pos h7])))
        · have hlr : 0 ≤ lowV (i + 1) ∧ lowV (i + 1) ≤ 262144 := lowV_range ⟨i + 1, by omega⟩
          refine ev_neg (by omega) (ev_bind0 (impl_low_is i (by omega)) ?_)
          rw [wsucc (by omega)]
          refine ev_bind0 (impl_low_is (i + 1) (by omega)) (ev_some ?_)
          rw [if_neg h7, w64 (by omega) (by omega)]
      · intro hb1
        refine Ev.step (fun _ => rfl) ?_
        simp only [impl_Quantile.j3]
        refine ev_pos hb1 ?_
        rw [wsucc (by omega)]
        exact hrec
    by_cases g1 : h[i] = 0
    · refine ev_pos g1 ?_
      rw [if_neg fun q => by have := q.1; omega]
      exact (go _).2 rfl
    · refine ev_neg g1 ?_
      by_cases g2 : (t + h[i]) * 1000 < p * all
      · rw [if_neg fun q => by have := q.2; omega]
        exact (go _).2 (decide_eq_true g2)
      · rw [if_pos ⟨by omega, by omega⟩]
        exact (go _).1 (decide_eq_false g2)
theorem spec_quantile_ev (c s mn mx : Int) (h r : List Int) (R : List (List Int)) (p : Int) : Ev (fun k => spec_Quantile.f k c s mn mx h r R p) (quantileV c s mn mx h r R p) := by
  have bad : ¬ (skOk c s mn mx h r R = true ∧ c ≠ 0 ∧ 1 ≤ p ∧ p ≤ 1000) → Ev (fun k => spec_Quantile.j0 k p true c s mn mx h r R) (quantileV c s mn mx h r R p) := by
    intro g
    refine Ev.step (fun _ => rfl) ?_
    simp only [spec_Quantile.j0]
    exact ev_pos (by trivial) (ev_some (by unfold quantileV; rw [if_neg g]))
  unfold spec_Quantile.f
  refine Ev.bind (spec_sketchOk_ev c s mn mx h r R) (ev_if (fun g => ?_) (fun g => bad fun q => g q.1))
  refine ev_if (fun g0 => bad fun q => q.2.1 g0) (fun g0 => ev_bind0 (l1In_is _ _ _) ?_)
  by_cases hp : 1 ≤ p ∧ p ≤ 1000
  case neg =>
    rw [decide_eq_false hp]
    exact bad fun q => hp q.2.2
  rw [decide_eq_true hp]
  have l8 := (skOk_true.1 g).2.2.2.2.2.2.2.1
  have hb : ∀ x ∈ h, 0 ≤ x ∧ x ≤ 1000000000 := fun x hx => (l8.2 x hx).1
  have hs := sum_bd h hb
  rw [l8.1] at hs
  refine Ev.step (fun _ => rfl) ?_
  simp only [spec_Quantile.j0]
  have hsum := qsum_at h l8.1 hb 8 0 0 (by omega) (by omega) (by omega)
  rw [List.drop_zero, Int.zero_add] at hsum
  refine ev_neg (by simp) (Ev.bind hsum ?_)
  unfold quantileV
  rw [if_pos ⟨g, g0, hp⟩]
  exact spec_q_at c s mn mx h r R p h.sum hp (by omega) l8.1 hb 8 0 0 (by omega) (by omega) (by omega)
theorem impl_quantile_ev (c s mn mx : Int) (h r : List Int) (R : List (List Int)) (p : Int) : Ev (fun k => impl_Quantile.f k c s mn mx h r R p) (quantileV c s mn mx h r R p) := by
  have bad : ¬ (skOk c s mn mx h r R = true ∧ c ≠ 0 ∧ 1 ≤ p ∧ p ≤ 1000) → Ev (fun k => impl_Quantile.j0 k p true c s mn mx h r R) (quantileV c s mn mx h r R p) := by
    intro g
    refine Ev.step (fun _ => rfl) ?_
    simp only [impl_Quantile.j0]
    exact ev_pos (by trivial) (ev_some (by unfold quantileV; rw [if_neg g]))
  unfold impl_Quantile.f
  refine Ev.bind (impl_sketchOk_ev c s mn mx h r R) (ev_if (fun g => ?_) (fun g => bad fun q => g q.1))
  refine ev_if (fun g0 => bad fun q => q.2.1 g0) (fun g0 => ev_bind0 (within_is _ _ _) ?_)
  by_cases hp : 1 ≤ p ∧ p ≤ 1000
  case neg =>
    rw [decide_eq_false hp]
    exact bad fun q => hp q.2.2
  rw [decide_eq_true hp]
  have l8 := (skOk_true.1 g).2.2.2.2.2.2.2.1
  have hb : ∀ x ∈ h, 0 ≤ x ∧ x ≤ 1000000000 := fun x hx => (l8.2 x hx).1
  have hs := sum_bd h hb
  rw [l8.1] at hs
  refine Ev.step (fun _ => rfl) ?_
  simp only [impl_Quantile.j0]
  refine ev_neg (by simp) (impl_qsum_at c s mn mx h r R p l8.1 hb _ 8 0 0 (by omega) (by omega) (by omega) ?_)
  rw [List.drop_zero, Int.zero_add]
  unfold quantileV
  rw [if_pos ⟨g, g0, hp⟩]
  exact impl_q_at h p h.sum hp (by omega) l8.1 hb 8 0 0 (by omega) (by omega) (by omega)
theorem take_sum_at (h : List Int) (i : Nat) (hi : i < h.length) : (h.take (i + 1)).sum = (h.take i).sum + h.getD i 0 := by
  rw [List.take_succ_eq_append_getElem hi, List.sum_append, List.getD_eq_getElem?_getD, List.getElem?_eq_getElem hi]
  simp
theorem qFrom_pos (h : List Int) (hl : h.length = 8) (hb : ∀ x ∈ h, 0 ≤ x ∧ x ≤ 1000000000) (p : Int) (hp : 1 ≤ p ∧ p ≤ 1000) (d : Nat) : ∀ (i : Nat) (acc : Int), i + d = 8 → acc = (h.take i).sum → acc * 1000 < p * h.sum →
    ∃ k, i ≤ k ∧ k < 8 ∧ h.getD k 0 > 0 ∧ (h.take (k + 1)).sum * 1000 ≥ p * h.sum ∧ (h.take k).sum * 1000 < p * h.sum ∧ qFrom h p h.sum d i acc = (lowV k, if k = 7 then 1000000 else lowV (k + 1) - 1) := by
  have hs := sum_bd h hb
  induction d with
  | zero =>
    intro i acc hi ha hlt
    obtain rfl : i = 8 := by omega
    rw [List.take_of_length_le (by omega)] at ha
    have := Int.mul_le_mul_of_nonneg_right hp.2 hs.1
    omega
  | succ d ih =>
    intro i acc hi ha hlt
    have hil : i < h.length := by omega
    have hr : rd h (i : Int) = h.getD i 0 := by rw [rd_get hil, List.getD_eq_getElem?_getD, List.getElem?_eq_getElem hil]; rfl
    have hx : 0 ≤ h.getD i 0 := by rw [List.getD_eq_getElem?_getD, List.getElem?_eq_getElem hil]; exact (hb _ (List.getElem_mem hil)).1
    have hse := take_sum_at h i hil
    unfold qFrom
    rw [hr]
    by_cases g : h.getD i 0 > 0 ∧ (acc + h.getD i 0) * 1000 ≥ p * h.sum
    · rw [if_pos g]
      exact ⟨i, Nat.le_refl _, by omega, g.1, by rw [hse, ← ha]; exact g.2, by rw [← ha]; exact hlt, rfl⟩
    · rw [if_neg g]
      have hlt2 : (acc + h.getD i 0) * 1000 < p * h.sum := by
        by_cases g1 : h.getD i 0 > 0
        · have : ¬ (acc + h.getD i 0) * 1000 ≥ p * h.sum := fun g2 => g ⟨g1, g2⟩
          omega
        · have : h.getD i 0 = 0 := by omega
          rw [this, Int.add_zero]
          exact hlt
      obtain ⟨k, k1, k2⟩ := ih (i + 1) (acc + h.getD i 0) (by omega) (by rw [hse, ha]) hlt2
      exact ⟨k, by omega, k2⟩
theorem qFrom_nil (h : List Int) (hz : ∀ i : Nat, h.getD i 0 ≤ 0) (p all : Int) (d : Nat) : ∀ (i : Nat) (acc : Int), qFrom h p all d i acc = (0, 0) := by
  induction d with
  | zero => intro i acc; rfl
  | succ d ih =>
    intro i acc
    unfold qFrom
    rw [rd_nat, if_neg (fun g => by have := hz i; omega)]
    exact ih _ _
theorem sum_zero_get (h : List Int) (hb : ∀ x ∈ h, 0 ≤ x ∧ x ≤ 1000000000) (hs : h.sum = 0) (i : Nat) : h.getD i 0 ≤ 0 := by
  rw [List.getD_eq_getElem?_getD]
  by_cases hi : i < h.length
  · rw [List.getElem?_eq_getElem hi, Option.getD_some]
    have e : (h.take (i + 1)).sum + (h.drop (i + 1)).sum = h.sum := by rw [← List.sum_append, List.take_append_drop]
    have h1 := (sum_bd (h.drop (i + 1)) (fun x hx => hb x (List.mem_of_mem_drop hx))).1
    have h2 := (sum_bd (h.take i) (fun x hx => hb x (List.mem_of_mem_take hx))).1
    have h3 := take_sum_at h i hi
    rw [List.getD_eq_getElem?_getD, List.getElem?_eq_getElem hi, Option.getD_some] at h3
    omega
  · rw [List.getElem?_eq_none (by omega)]
    exact Int.le_refl _
theorem take_sum_mono (h : List Int) (hb : ∀ x ∈ h, 0 ≤ x ∧ x ≤ 1000000000) (i j : Nat) (hij : i ≤ j) : (h.take i).sum ≤ (h.take j).sum := by
  have e : h.take i = (h.take j).take i := by rw [List.take_take, Nat.min_eq_left hij]
  have e2 : ((h.take j).take i).sum + ((h.take j).drop i).sum = (h.take j).sum := by rw [← List.sum_append, List.take_append_drop]
  have h1 := (sum_bd ((h.take j).drop i) (fun x hx => hb x (List.mem_of_mem_take (List.mem_of_mem_drop hx)))).1
  rw [e]
  omega
theorem bk_low : ∀ k : Fin 8, bucketOf (lowV k.val) = ((k.val : Nat) : Int) := by decide +kernel
theorem low_hi : ∀ k : Fin 8, lowV k.val ≤ (if k.val = 7 then 1000000 else lowV (k.val + 1) - 1) ∧ lowV k.val ≤ 1000000 := by decide +kernel
theorem low_mono : ∀ j k : Fin 8, j.val ≤ k.val → lowV j.val ≤ lowV k.val := by decide +kernel
theorem sum0_at (c s mn mx : Int) (h r : List Int) (R : List (List Int)) (p a b : Int) (hl : h.length = 8) (hb : ∀ x ∈ h, 0 ≤ x ∧ x ≤ 1000000000) (v : Bool) (d : Nat) : ∀ (i : Nat), i + d = 8 →
    Ev (fun k => if h.sum = 0 then (if a = 0 then some (b == 0) else some false) else ((impl_BucketOf.f k a).bind fun t => laws_FnQuantiles.l1 k p a b h.sum t 0 0 c s mn mx h r R)) v →
    Ev (fun k => laws_FnQuantiles.l0 k p a b (h.take i).sum (i : Int) c s mn mx h r R) v := by
  have hs := sum_bd h hb
  induction d with
  | zero =>
    intro i hi hv
    refine Ev.step (fun _ => rfl) ?_
    simp only [laws_FnQuantiles.l0]
    refine ev_neg (by omega) ?_
    rw [List.take_of_length_le (by omega)]
    exact hv
  | succ d ih =>
    intro i hi hv
    have hil : i < h.length := by omega
    have hx := hb _ (List.getElem_mem hil)
    have h1 := sum_bd (h.take i) (fun x hx => hb x (List.mem_of_mem_take hx))
    have hll := List.length_take_le i h
    have hse : (h.take i).sum + rd h (i : Int) = (h.take (i + 1)).sum := by rw [rd_nat, take_sum_at h i hil]
    have h2 := sum_bd (h.take (i + 1)) (fun x hx => hb x (List.mem_of_mem_take hx))
    have hll2 := List.length_take_le (i + 1) h
    refine Ev.step (fun _ => rfl) ?_
    simp only [laws_FnQuantiles.l0]
    refine ev_pos (by omega) (ev_pos (by omega) ?_)
    rw [hse, wsucc (by omega), w64 (by omega) (by omega)]
    exact ih (i + 1) (by omega) hv
theorem sum1_at (c s mn mx : Int) (h r : List Int) (R : List (List Int)) (p a b all : Int) (m : Nat) (hm : m < 8) (hl : h.length = 8) (hb : ∀ x ∈ h, 0 ≤ x ∧ x ≤ 1000000000) (v : Bool) (d : Nat) : ∀ (i : Nat), i + d = m + 1 →
    Ev (fun k => laws_FnQuantiles.l1 k p a b all (m : Int) (h.take (m + 1)).sum ((m + 1 : Nat) : Int) c s mn mx h r R) v →
    Ev (fun k => laws_FnQuantiles.l1 k p a b all (m : Int) (h.take i).sum (i : Int) c s mn mx h r R) v := by
  induction d with
  | zero =>
    intro i hi hv
    rw [show i = m + 1 by omega]
    exact hv
  | succ d ih =>
    intro i hi hv
    have hil : i < h.length := by omega
    have hse : (h.take i).sum + rd h (i : Int) = (h.take (i + 1)).sum := by rw [rd_nat, take_sum_at h i hil]
    have h2 := sum_bd (h.take (i + 1)) (fun x hx => hb x (List.mem_of_mem_take hx))
    have hll2 := List.length_take_le (i + 1) h
    refine Ev.step (fun _ => rfl) ?_
    simp only [laws_FnQuantiles.l1]
    refine ev_pos (by omega) (ev_pos (by omega) (ev_pos (by omega) ?_))
    rw [hse, wsucc (by omega), w64 (by omega) (by omega)]
    exact ih (i + 1) (by omega) hv
theorem FnQuantiles : laws_FnQuantiles.Pure := by
  intro l hl _ _
  refine (?_ : Ev (fun k => laws_FnQuantiles.f k l) true).rounds
  unfold laws_FnQuantiles.f laws_big.f
  simp only [Option.bind_some]
  by_cases hb : (l.length : Int) > 1048576
  · exact ev_pos (decide_eq_true hb) (ev_some rfl)
  refine ev_neg (by rw [decide_eq_false hb]; simp) ?_
  obtain ⟨s0, hs0⟩ := l1New_ev l
  obtain ⟨c, s, mn, mx, h, g, R, q1, s1, h1, _, _, _, _, hq1⟩ := l3Draw_ev l (by omega) 0 (by omega) s0
  obtain ⟨p, q2, s2, h2, hq2⟩ := pick_at l (by omega) q1 hq1 s1 [1, 500, 990, 1000, 0, 1001, 250] (by simp) (by simp)
  refine Ev.bind (a := (c, s, mn, mx, h, g, R, p)) ?_ ?_
  · unfold spec_DrawQuantile.f
    exact Ev.bind hs0 (Ev.bind h1 (ev_bind0 h2 (ev_some rfl)))
  refine Ev.bind (impl_quantile_ev c s mn mx h g R p) (Ev.bind (spec_quantile_ev c s mn mx h g R p) (ev_pos rfl ?_))
  have hne : ∀ x : Int, (x != x) = false := by simp
  simp only [hne]
  refine Ev.step (fun _ => rfl) ?_
  simp only [laws_FnQuantiles.j0]
  have none_ : quantileV c s mn mx h g R p = (0, 0) → Ev (fun k => laws_FnQuantiles.j1 k p (quantileV c s mn mx h g R p).1 (quantileV c s mn mx h g R p).2 true c s mn mx h g R) true := by
    intro e
    rw [e]
    refine Ev.step (fun _ => rfl) ?_
    simp only [laws_FnQuantiles.j1]
    exact ev_pos (by trivial) (ev_pos (by trivial) (ev_some rfl))
  refine ev_neg (by decide) (Ev.bind (spec_sketchOk_ev c s mn mx h g R) (ev_if (fun gk => ?_) (fun gk => none_ (by unfold quantileV; rw [if_neg (fun q => gk q.1)]))))
  refine ev_if (fun g0 => none_ (by unfold quantileV; rw [if_neg (fun q => q.2.1 g0)])) (fun g0 => ?_)
  refine ev_if (fun g1 => none_ (by unfold quantileV; rw [if_neg (fun q => by have := q.2.2.1; omega)])) (fun g1 => ?_)
  by_cases g2 : p > 1000
  · rw [decide_eq_true g2]
    exact none_ (by unfold quantileV; rw [if_neg (fun q => by have := q.2.2.2; omega)])
  rw [decide_eq_false g2]
  have l8 := (skOk_true.1 gk).2.2.2.2.2.2.2.1
  have hbd : ∀ x ∈ h, 0 ≤ x ∧ x ≤ 1000000000 := fun x hx => (l8.2 x hx).1
  have hl8 : h.length = 8 := l8.1
  have hsum := sum_bd h hbd
  rw [l8.1] at hsum
  have hp : 1 ≤ p ∧ p ≤ 1000 := by omega
  have eq : quantileV c s mn mx h g R p = qFrom h p h.sum 8 0 0 := by unfold quantileV; rw [if_pos ⟨gk, g0, hp⟩]
  have eq2 : quantileV c s mn mx h g R 1000 = qFrom h 1000 h.sum 8 0 0 := by unfold quantileV; rw [if_pos ⟨gk, g0, by omega, by omega⟩]
  rw [eq]
  refine Ev.step (fun _ => rfl) ?_
  simp only [laws_FnQuantiles.j1]
  refine ev_neg (by decide) ?_
  have start := sum0_at c s mn mx h g R p (qFrom h p h.sum 8 0 0).1 (qFrom h p h.sum 8 0 0).2 l8.1 hbd true 8 0 (by omega)
  rw [List.take_zero, List.sum_nil] at start
  refine start ?_
  by_cases hz : h.sum = 0
  · refine ev_pos hz ?_
    rw [qFrom_nil h (sum_zero_get h hbd hz)]
    exact ev_pos rfl (ev_some rfl)
  have hpos : 0 < p * h.sum := Int.mul_pos (by omega) (by omega)
  obtain ⟨m, _, m8, mpos, mge, mlt, me⟩ := qFrom_pos h l8.1 hbd p hp 8 0 0 (by omega) (by simp) (by simpa using hpos)
  obtain ⟨n, _, n8, _, nge, _, ne⟩ := qFrom_pos h l8.1 hbd 1000 (by omega) 8 0 0 (by omega) (by simp) (by simp; omega)
  refine ev_neg hz ?_
  rw [me]
  have hbk : bucketOf (lowV m) = ((m : Nat) : Int) := bk_low ⟨m, m8⟩
  have hlh := low_hi ⟨m, m8⟩
  have hbo := impl_bucketOf_ev (lowV m)
  rw [hbk] at hbo
  refine Ev.bind hbo ?_
  have st1 := sum1_at c s mn mx h g R p (lowV m) (if m = 7 then 1000000 else lowV (m + 1) - 1) h.sum m m8 l8.1 hbd true (m + 1) 0 (by omega)
  rw [List.take_zero, List.sum_nil] at st1
  refine st1 (Ev.step (fun _ => rfl) ?_)
  simp only [laws_FnQuantiles.l1]
  have iq := impl_quantile_ev c s mn mx h g R 1000
  rw [eq2, ne] at iq
  have hrd : rd h (m : Int) = h.getD m 0 := rd_nat h m
  have hts := take_sum_at h m (by omega)
  have b1 := sum_bd (h.take (m + 1)) (fun x hx => hbd x (List.mem_of_mem_take hx))
  have c1 := List.length_take_le (m + 1) h
  have b0 := sum_bd (h.take m) (fun x hx => hbd x (List.mem_of_mem_take hx))
  have hpa := prod_bd p h.sum hp (by omega)
  have hmn : m ≤ n := by
    rcases Nat.lt_or_ge n m with hlt | hge
    · have t1 := take_sum_mono h hbd (n + 1) m (by omega)
      have t2 := Int.mul_le_mul_of_nonneg_right hp.2 hsum.1
      omega
    · exact hge
  have hlow := low_mono ⟨m, m8⟩ ⟨n, n8⟩ hmn
  rw [hrd, w64 (x := (h.take (m + 1)).sum * 1000) (by omega) (by omega), w64 (x := p * h.sum) (by omega) (by omega), w64 (x := (h.take (m + 1)).sum - h.getD m 0) (by omega) (by omega), w64 (x := ((h.take (m + 1)).sum - h.getD m 0) * 1000) (by omega) (by omega)]
  refine ev_neg (by omega) (Ev.bind iq (ev_pos (by omega) (ev_pos (by omega) (ev_pos (by omega) (ev_pos (by omega) (ev_pos (by omega) (ev_pos (by have := hlh.1; exact this) (ev_some ?_))))))))
  exact decide_eq_true hlow

end Go.Proofs.Ytfknjoebomicnaa.Pure
