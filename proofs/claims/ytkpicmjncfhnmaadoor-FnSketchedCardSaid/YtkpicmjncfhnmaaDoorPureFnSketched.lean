/- A summary of drawn numbers is the spec's, is right, and is the same whatever the order and however the numbers were parted. -/
import Derived.Test.YtkpicmjncfhnmaaDoorPFnSketchedx12
import Derived.Test.YtkpicmjncfhnmaaDoorAid
namespace Go.Proofs.YtkpicmjncfhnmaaDoor.Pure
open Go Go.RowKit Go.Proofs.YtkpicmjncfhnmaaDoor.PFnSketched Go.Proofs.YtkpicmjncfhnmaaDoorW.PrintWords Go.Proofs.YtkpicmjncfhnmaaDoorW.PrintLast Go.Proofs.YtkpicmjncfhnmaaDoorW.PrintMore Go.Proofs.YtkpicmjncfhnmaaDoor.Aid

theorem rdR_get {xs : List (List Int)} {n : Nat} (h : n < xs.length) : rd_L3 xs (n : Int) = xs[n] := by
  unfold rd_L3
  rw [Int.toNat_natCast, List.getD_eq_getElem?_getD, List.getElem?_eq_getElem h]
  rfl
theorem and255 (x : Int) : 0 ≤ Go.bits .and .i64 x 255 ∧ Go.bits .and .i64 x 255 ≤ 255 := by
  have h : (BitVec.ofInt 64 x).toNat &&& 255 ≤ 255 := Nat.and_le_right
  have e : Go.bits .and .i64 x 255 = (((BitVec.ofInt 64 x).toNat &&& 255 : Nat) : Int) :=
    wraps_i64 _ (Int.natCast_nonneg _) (Int.lt_of_le_of_lt (Int.ofNat_le.mpr h) (by decide))
  rw [e]
  omega
theorem l1Byte_is (l : List Int) (hl : l.length ≤ 281474976702464) (p : Nat) (hp : p ≤ l.length) (r : Int) : ∃ (v q : Nat) (s : Int), spec_l1Byte.f l p r = some ((v : Int), (q : Int), s) ∧ v ≤ 255 ∧ q ≤ l.length := by
  unfold spec_l1Byte.f
  by_cases h : (p : Int) < (l.length : Int)
  · rw [if_pos h, if_pos (by omega)]
    obtain ⟨h0, h1⟩ := and255 (wrap64 ((Go.bits .and .i64 (Go.bits .xor .i64 ((wrap64 ((wrap64 (r * 6364136223846793005)) + 1442695040888963407)) / 8589934592) ((wrap64 ((wrap64 (r * 6364136223846793005)) + 1442695040888963407)) / 35184372088832)) 255) + (wrap64 (rd l p))))
    obtain ⟨v, hv⟩ := Int.eq_ofNat_of_zero_le h0
    rw [hv] at h1 ⊢
    exact ⟨v, p + 1, _, by rw [wsucc (by omega)], by omega, by omega⟩
  · rw [if_neg h]
    obtain ⟨h0, h1⟩ := and255 (Go.bits .xor .i64 ((wrap64 ((wrap64 (r * 6364136223846793005)) + 1442695040888963407)) / 8589934592) ((wrap64 ((wrap64 (r * 6364136223846793005)) + 1442695040888963407)) / 35184372088832))
    obtain ⟨v, hv⟩ := Int.eq_ofNat_of_zero_le h0
    rw [hv] at h1 ⊢
    exact ⟨v, p, _, rfl, by omega, hp⟩
theorem l1Below_is (l : List Int) (hl : l.length ≤ 281474976702464) (p : Nat) (hp : p ≤ l.length) (r : Int) (n : Nat) (h0 : 0 < n) (h1 : n ≤ 256) :
    ∃ (v q : Nat) (s : Int), spec_l1Below.f l p r (n : Int) = some ((v : Int), (q : Int), s) ∧ v < n ∧ q ≤ l.length := by
  obtain ⟨v, q, s, e, hv, hq⟩ := l1Byte_is l hl p hp r
  refine ⟨v % n, q, s, ?_, Nat.mod_lt _ h0, hq⟩
  unfold spec_l1Below.f
  rw [if_neg (by omega), if_pos (by omega), e]
  simp only [Option.bind_some]
  rw [if_neg (by omega), Int.tmod_eq_emod_of_nonneg (by omega)]
  rfl
theorem l1New_at (l : List Int) (d : Nat) : ∀ (i : Nat) (x : Int), i + d = l.length → ∃ s, Ev (fun k => spec_l1New.l0 k l x (i : Int)) (l, 0, s) := by
  induction d with
  | zero =>
    intro i x hi
    refine ⟨x, Ev.step (fun _ => rfl) ?_⟩
    simp only [spec_l1New.l0]
    exact ev_neg (by omega) (ev_some rfl)
  | succ d ih =>
    intro i x hi
    by_cases h4 : i < 4000
    · obtain ⟨s, hs⟩ := ih (i + 1) (Go.bits .and .i64 (wrap64 ((wrap64 ((wrap64 (x * 131)) + (wrap64 (rd l i)))) + 7)) 1073741823) (by omega)
      refine ⟨s, Ev.step (fun _ => rfl) ?_⟩
      simp only [spec_l1New.l0]
      refine ev_pos (by omega) (ev_pos (by omega) (ev_pos (by omega) ?_))
      rw [wsucc (by omega)]
      exact hs
    · refine ⟨x, Ev.step (fun _ => rfl) ?_⟩
      simp only [spec_l1New.l0]
      exact ev_pos (by omega) (ev_neg (by omega) (ev_some rfl))
theorem l1New_ev (l : List Int) : ∃ s, Ev (fun k => spec_l1New.f k l) (l, 0, s) := l1New_at l l.length 0 _ (by omega)
theorem within_is (a b c : Int) : impl_within.f a b c = some (decide (b ≤ a ∧ a ≤ c)) := in_is a b c
theorem l1In_is (a b c : Int) : spec_l1In.f a b c = some (decide (b ≤ a ∧ a ≤ c)) := in_is a b c
def LiOk (xs : List Int) (n : Nat) (most : Int) (zero : Prop) : Prop := xs.length = n ∧ ∀ x ∈ xs, (0 ≤ x ∧ x ≤ most) ∧ (zero → x = 0)
def SkOk (c s mn mx : Int) (h r : List Int) (R : List (List Int)) : Prop :=
  (0 ≤ c ∧ c ≤ 1000000000) ∧ (0 ≤ s ∧ s ≤ 1000000000) ∧ (0 ≤ mn ∧ mn ≤ 1000000) ∧ (0 ≤ mx ∧ mx ≤ 1000000) ∧ mn ≤ mx ∧ R.length = 2 ∧ (c = 0 → s = 0 ∧ mx = 0) ∧
  LiOk h 8 1000000000 (c = 0) ∧ LiOk r 8 17 (c = 0) ∧ LiOk (rd_L3 R 0) 4 1000000000 (c = 0) ∧ LiOk (rd_L3 R 1) 4 1000000000 (c = 0)
noncomputable def skOk (c s mn mx : Int) (h r : List Int) (R : List (List Int)) : Bool := @decide (SkOk c s mn mx h r R) (Classical.propDecidable _)
theorem skOk_true {c s mn mx : Int} {h r : List Int} {R : List (List Int)} : skOk c s mn mx h r R = true ↔ SkOk c s mn mx h r R := by
  unfold skOk
  exact @decide_eq_true_iff _ (Classical.propDecidable _)
theorem skOk_false {c s mn mx : Int} {h r : List Int} {R : List (List Int)} (hn : ¬ SkOk c s mn mx h r R) : skOk c s mn mx h r R = false := by
  cases e : skOk c s mn mx h r R with
  | false => rfl
  | true => exact absurd (skOk_true.1 e) hn
theorem l3List_at (xs : List Int) (n : Nat) (most : Int) (z : Bool) (hn : n ≤ 8) (hl : xs.length = n) (r : Bool) (d : Nat) : ∀ i : Nat, i + d = n →
    ((∀ x ∈ xs.drop i, (0 ≤ x ∧ x ≤ most) ∧ (z = true → x = 0)) → r = true) → (¬ (∀ x ∈ xs.drop i, (0 ≤ x ∧ x ≤ most) ∧ (z = true → x = 0)) → r = false) →
    Ev (fun k => spec_l3List.l0 k xs (n : Int) most z (i : Int)) r := by
  induction d with
  | zero =>
    intro i hi h1 _
    refine Ev.step (fun _ => rfl) ?_
    simp only [spec_l3List.l0]
    refine ev_neg (by omega) (ev_some ?_)
    rw [h1]
    intro x hx
    rw [List.drop_of_length_le (by omega)] at hx
    cases hx
  | succ d ih =>
    intro i hi h1 h2
    have hg : i < xs.length := by omega
    rw [List.drop_eq_getElem_cons hg] at h1 h2
    refine Ev.step (fun _ => rfl) ?_
    simp only [spec_l3List.l0]
    rw [wsucc (by omega), rd_get hg]
    refine ev_pos (by omega) (ev_pos (by omega) (ev_pos (by omega) (ev_bind0 (l1In_is _ _ _) ?_)))
    by_cases c : 0 ≤ xs[i] ∧ xs[i] ≤ most
    · refine ev_pos (decide_eq_true c) ?_
      have hrec : (z = true → xs[i] = 0) → Ev (fun k => spec_l3List.l0 k xs (n : Int) most z ((i + 1 : Nat) : Int)) r := by
        intro hz
        refine ih (i + 1) (by omega) (fun h => h1 fun x hx => ?_) (fun h => h2 fun g => h fun x hx => g x (List.mem_cons_of_mem _ hx))
        rcases List.mem_cons.1 hx with rfl | hx
        · exact ⟨c, hz⟩
        · exact h x hx
      by_cases hz : z = true
      · refine ev_pos hz ?_
        by_cases h0 : xs[i] = 0
        · exact ev_pos h0 (hrec fun _ => h0)
        · refine ev_neg h0 (ev_some ?_)
          exact (h2 fun g => h0 ((g _ List.mem_cons_self).2 hz)).symm
      · exact ev_neg hz (hrec fun h => absurd h hz)
    · refine ev_neg (by rw [decide_eq_false c]; exact Bool.false_ne_true) (ev_some ?_)
      exact (h2 fun g => c (g _ List.mem_cons_self).1).symm
theorem l3List_ev (xs : List Int) (n : Nat) (most : Int) (z : Bool) (hn : n ≤ 8) (r : Bool) (h1 : LiOk xs n most (z = true) → r = true) (h2 : ¬ LiOk xs n most (z = true) → r = false) : Ev (fun k => spec_l3List.f k xs (n : Int) most z) r := by
  unfold spec_l3List.f
  by_cases hl : xs.length = n
  · exact ev_pos (by omega) (l3List_at xs n most z hn hl r n 0 (by omega) (fun h => h1 ⟨hl, h⟩) (fun h => h2 fun g => h g.2))
  · exact ev_neg (by omega) (ev_some (h2 fun g => hl g.1).symm)
theorem l3List_dec (xs : List Int) (n : Nat) (most : Int) (z : Bool) (hn : n ≤ 8) (Z : Prop) (hz : (z = true) = Z) : Ev (fun k => spec_l3List.f k xs (n : Int) most z) (@decide (LiOk xs n most Z) (Classical.propDecidable _)) := by
  subst hz
  exact l3List_ev xs n most z hn _ (fun h => @decide_eq_true _ (Classical.propDecidable _) h) (fun h => @decide_eq_false _ (Classical.propDecidable _) h)
theorem spec_sketchOk_j1 (c s mn mx : Int) (h r : List Int) (R : List (List Int)) (hR : R.length = 2) (f : Bool) (v : Bool)
    (hv : f = false → LiOk h 8 1000000000 (c = 0) → LiOk r 8 17 (c = 0) → LiOk (rd_L3 R 0) 4 1000000000 (c = 0) → LiOk (rd_L3 R 1) 4 1000000000 (c = 0) → v = true)
    (hn : ¬ (f = false ∧ LiOk h 8 1000000000 (c = 0) ∧ LiOk r 8 17 (c = 0) ∧ LiOk (rd_L3 R 0) 4 1000000000 (c = 0) ∧ LiOk (rd_L3 R 1) 4 1000000000 (c = 0)) → v = false) :
    Ev (fun k => spec_SketchOk.j1 k (c == 0) f c s mn mx h r R) v := by
  have ez : ((c == 0) = true) = (c = 0) := by simp
  refine Ev.step (fun _ => rfl) ?_
  simp only [spec_SketchOk.j1]
  refine ev_if (fun hf => ev_some (hn fun g => by rw [hf] at g; exact absurd g.1 (by simp)).symm) (fun hf => ?_)
  have hf' : f = false := by simpa using hf
  have L := fun xs n most hn => l3List_dec xs n most (c == 0) hn (c = 0) ez
  refine Ev.bind (L h 8 1000000000 (by omega)) ?_
  refine ev_if (fun g1 => ?_) (fun g1 => ev_some (hn fun g => g1 (@decide_eq_true _ (Classical.propDecidable _) g.2.1)).symm)
  refine Ev.bind (L r 8 17 (by omega)) ?_
  refine ev_if (fun g2 => ?_) (fun g2 => ev_some (hn fun g => g2 (@decide_eq_true _ (Classical.propDecidable _) g.2.2.1)).symm)
  refine ev_pos (by omega) (Ev.bind (L (rd_L3 R 0) 4 1000000000 (by omega)) ?_)
  refine ev_if (fun g3 => ?_) (fun g3 => ev_some (hn fun g => g3 (@decide_eq_true _ (Classical.propDecidable _) g.2.2.2.1)).symm)
  refine ev_pos (by omega) (Ev.bind (L (rd_L3 R 1) 4 1000000000 (by omega)) (ev_some ?_))
  have t1 := @of_decide_eq_true _ (Classical.propDecidable _) g1
  have t2 := @of_decide_eq_true _ (Classical.propDecidable _) g2
  have t3 := @of_decide_eq_true _ (Classical.propDecidable _) g3
  by_cases t4 : LiOk (rd_L3 R 1) 4 1000000000 (c = 0)
  · rw [hv hf' t1 t2 t3 t4]
    exact @decide_eq_true _ (Classical.propDecidable _) t4
  · rw [hn fun g => t4 g.2.2.2.2]
    exact @decide_eq_false _ (Classical.propDecidable _) t4
theorem spec_sketchOk_ev (c s mn mx : Int) (h r : List Int) (R : List (List Int)) : Ev (fun k => spec_SketchOk.f k c s mn mx h r R) (skOk c s mn mx h r R) := by
  have bad : ¬ SkOk c s mn mx h r R → Ev (fun k => spec_SketchOk.j0 k true c s mn mx h r R) (skOk c s mn mx h r R) := by
    intro hb
    refine Ev.step (fun _ => rfl) ?_
    simp only [spec_SketchOk.j0]
    exact ev_pos (by trivial) (ev_some (skOk_false hb).symm)
  unfold spec_SketchOk.f
  refine ev_bind0 (l1In_is _ _ _) ?_
  by_cases a1 : 0 ≤ c ∧ c ≤ 1000000000
  case neg => exact ev_neg (by rw [decide_eq_false a1]; exact Bool.false_ne_true) (bad fun g => a1 g.1)
  refine ev_pos (decide_eq_true a1) (ev_bind0 (l1In_is _ _ _) ?_)
  by_cases a2 : 0 ≤ s ∧ s ≤ 1000000000
  case neg => exact ev_neg (by rw [decide_eq_false a2]; exact Bool.false_ne_true) (bad fun g => a2 g.2.1)
  refine ev_pos (decide_eq_true a2) (ev_bind0 (l1In_is _ _ _) ?_)
  by_cases a3 : 0 ≤ mn ∧ mn ≤ 1000000
  case neg => exact ev_neg (by rw [decide_eq_false a3]; exact Bool.false_ne_true) (bad fun g => a3 g.2.2.1)
  refine ev_pos (decide_eq_true a3) (ev_bind0 (l1In_is _ _ _) ?_)
  by_cases a4 : 0 ≤ mx ∧ mx ≤ 1000000
  case neg => exact ev_neg (by rw [decide_eq_false a4]; exact Bool.false_ne_true) (bad fun g => a4 g.2.2.2.1)
  refine ev_pos (decide_eq_true a4) ?_
  by_cases a5 : mn ≤ mx
  case neg => exact ev_pos (by omega) (bad fun g => a5 g.2.2.2.2.1)
  refine ev_neg (by omega) ?_
  by_cases a6 : R.length = 2
  case neg =>
    have e : ((R.length : Int) != 2) = true := by simp; omega
    rw [e]
    exact bad fun g => a6 g.2.2.2.2.2.1
  have e : ((R.length : Int) != 2) = false := by simp; omega
  rw [e]
  refine Ev.step (fun _ => rfl) ?_
  simp only [spec_SketchOk.j0]
  refine ev_neg (by simp) ?_
  have fin : ∀ f : Bool, (f = false ↔ (c = 0 → s = 0 ∧ mx = 0)) → Ev (fun k => spec_SketchOk.j1 k (c == 0) f c s mn mx h r R) (skOk c s mn mx h r R) := by
    intro f hf
    refine spec_sketchOk_j1 c s mn mx h r R a6 f _ (fun g1 g2 g3 g4 g5 => skOk_true.2 ⟨a1, a2, a3, a4, a5, a6, hf.1 g1, g2, g3, g4, g5⟩) (fun g => skOk_false fun q => g ⟨hf.2 q.2.2.2.2.2.2.1, q.2.2.2.2.2.2.2⟩)
  refine ev_if (fun z => ?_) (fun z => fin false ⟨fun _ h => absurd h z, fun _ => rfl⟩)
  refine ev_if (fun z2 => fin _ ?_) (fun z2 => fin true ⟨fun h => by simp at h, fun h => absurd (h z).1 z2⟩)
  constructor
  · intro h _
    exact ⟨z2, by simpa using h⟩
  · intro h
    simpa using (h z).2
theorem sum_bd (ys : List Int) (h : ∀ x ∈ ys, 0 ≤ x ∧ x ≤ 1000000000) : 0 ≤ ys.sum ∧ ys.sum ≤ ys.length * 1000000000 := by
  induction ys with
  | nil => simp
  | cons y ys ih =>
    have h1 := h y List.mem_cons_self
    have h2 := ih fun x hx => h x (List.mem_cons_of_mem _ hx)
    rw [List.sum_cons, List.length_cons]
    omega
theorem sum_zero (ys : List Int) (h : ∀ x ∈ ys, 0 ≤ x ∧ x ≤ 1000000000) (h0 : ys.sum = 0) : ∀ x ∈ ys, x = 0 := by
  induction ys with
  | nil => exact fun x hx => by cases hx
  | cons y ys ih =>
    intro x hx
    have h1 := h y List.mem_cons_self
    have h2 := sum_bd ys fun x hx => h x (List.mem_cons_of_mem _ hx)
    rw [List.sum_cons] at h0
    rcases List.mem_cons.1 hx with rfl | hx
    · omega
    · exact ih (fun x hx => h x (List.mem_cons_of_mem _ hx)) (by omega) x hx
theorem zero_sum (ys : List Int) (h : ∀ x ∈ ys, x = 0) : ys.sum = 0 := by
  induction ys with
  | nil => rfl
  | cons y ys ih =>
    rw [List.sum_cons, h y List.mem_cons_self, ih fun x hx => h x (List.mem_cons_of_mem _ hx)]
    rfl
theorem copyInts_is (xs : List Int) (h : xs.length ≤ 1048576) : impl_copyInts.f xs = some xs := by
  unfold impl_copyInts.f
  rw [if_pos (by simp; omega)]
  rfl
theorem counts_ev (c s mn mx : Int) (h r A B : List Int) (hh : h.length ≤ 8) (hr : r.length ≤ 8) (hA : A.length ≤ 8) (hB : B.length ≤ 8) :
    Ev (fun k => impl_counts.f k c s mn mx h r [A, B]) (((h ++ r) ++ A) ++ B) := by
  unfold impl_counts.f
  refine ev_bind0 (copyInts_is h (by omega)) (ev_pos (by omega) ?_)
  refine Ev.step (fun _ => rfl) ?_
  simp only [impl_counts.l0]
  refine ev_pos (by simp) (ev_pos (by simp) (ev_pos (by simp) ?_))
  have e0 : rd_L3 [A, B] 0 = A := rfl
  have w1 : wrap64 (0 + 1) = 1 := by unfold wrap64; omega
  have w2 : wrap64 (1 + 1) = 2 := by unfold wrap64; omega
  have e1 : rd_L3 [A, B] (wrap64 (0 + 1)) = B := by rw [w1]; rfl
  refine ev_pos (by rw [e0]; simp; omega) ?_
  refine Ev.step (fun _ => rfl) ?_
  simp only [impl_counts.l0]
  refine ev_pos (by rw [w1]; simp) (ev_pos (by rw [w1]; omega) (ev_pos (by rw [w1]; simp) ?_))
  refine ev_pos (by rw [e0, e1]; simp; omega) ?_
  refine Ev.step (fun _ => rfl) ?_
  simp only [impl_counts.l0]
  exact ev_neg (by rw [w1, w2]; simp) (ev_some (by rw [e0, e1]))
theorem impl_sketchOk_l1 (c s mn mx : Int) (h r : List Int) (R : List (List Int)) (v : Bool) (t : Int) (hr : r.length ≤ 8) (d : Nat) : ∀ i : Nat, i + d = r.length →
    ((∀ x ∈ r.drop i, x ≤ 17) → v = if c = 0 then (t == 0) else decide (mn ≤ mx ∧ mx ≤ 1000000)) → (¬ (∀ x ∈ r.drop i, x ≤ 17) → v = false) →
    Ev (fun k => impl_SketchOk.l1 k t r (r.length : Int) (i : Int) c s mn mx h r R) v := by
  induction d with
  | zero =>
    intro i hi h1 _
    refine Ev.step (fun _ => rfl) ?_
    simp only [impl_SketchOk.l1]
    refine ev_neg (by omega) ?_
    rw [h1 (fun x hx => by rw [List.drop_of_length_le (by omega)] at hx; cases hx)]
    by_cases hc : c = 0
    · exact ev_pos hc (ev_some (by rw [if_pos hc]))
    · refine ev_neg hc (ev_if (fun g => ev_some ?_) (fun g => ev_some (by rw [if_neg hc]; exact (decide_eq_false fun q => g q.1).symm)))
      rw [if_neg hc]
      exact decide_eq_decide.mpr ⟨fun x => ⟨g, x⟩, fun x => x.2⟩
  | succ d ih =>
    intro i hi h1 h2
    have hg : i < r.length := by omega
    rw [List.drop_eq_getElem_cons hg] at h1 h2
    refine Ev.step (fun _ => rfl) ?_
    simp only [impl_SketchOk.l1]
    rw [wsucc (by omega), rd_get hg]
    refine ev_pos (by omega) (ev_pos (by omega) (ev_pos (by omega) ?_))
    by_cases g : r[i] > 17
    · exact ev_pos g (ev_some (h2 fun q => by have := q _ List.mem_cons_self; omega).symm)
    · refine ev_neg g (ih (i + 1) (by omega) (fun q => h1 fun x hx => ?_) (fun q => h2 fun p => q fun x hx => p x (List.mem_cons_of_mem _ hx)))
      rcases List.mem_cons.1 hx with rfl | hx
      · omega
      · exact q x hx
theorem impl_sketchOk_l0 (c s mn mx : Int) (h r : List Int) (R : List (List Int)) (v : Bool) (ys : List Int) (hy : ys.length ≤ 100) (d : Nat) : ∀ (i : Nat) (t : Int), i + d = ys.length → 0 ≤ t → t ≤ (i : Int) * 1000000000 →
    ((∀ x ∈ ys.drop i, 0 ≤ x ∧ x ≤ 1000000000) → Ev (fun k => impl_SketchOk.l1 k (t + (ys.drop i).sum) r (r.length : Int) 0 c s mn mx h r R) v) → (¬ (∀ x ∈ ys.drop i, 0 ≤ x ∧ x ≤ 1000000000) → v = false) →
    Ev (fun k => impl_SketchOk.l0 k t ys (ys.length : Int) (i : Int) c s mn mx h r R) v := by
  induction d with
  | zero =>
    intro i t hi h0 ht h1 _
    refine Ev.step (fun _ => rfl) ?_
    simp only [impl_SketchOk.l0]
    refine ev_neg (by omega) ?_
    rw [List.drop_of_length_le (by omega)] at h1
    have := h1 (fun x hx => by cases hx)
    rw [List.sum_nil, Int.add_zero] at this
    exact this
  | succ d ih =>
    intro i t hi h0 ht h1 h2
    have hg : i < ys.length := by omega
    rw [List.drop_eq_getElem_cons hg] at h1 h2
    refine Ev.step (fun _ => rfl) ?_
    simp only [impl_SketchOk.l0]
    rw [wsucc (by omega), rd_get hg]
    refine ev_pos (by omega) (ev_pos (by omega) (ev_pos (by omega) (ev_bind0 (within_is _ _ _) ?_)))
    by_cases g : 0 ≤ ys[i] ∧ ys[i] ≤ 1000000000
    · refine ev_pos (decide_eq_true g) ?_
      rw [w64 (x := t + ys[i]) (by omega) (by omega)]
      refine ih (i + 1) _ (by omega) (by omega) (by omega) (fun q => ?_) (fun q => h2 fun p => q fun x hx => p x (List.mem_cons_of_mem _ hx))
      rw [Int.add_assoc, ← List.sum_cons]
      refine h1 fun x hx => ?_
      rcases List.mem_cons.1 hx with rfl | hx
      · exact g
      · exact q x hx
    · exact ev_neg (by rw [decide_eq_false g]; exact Bool.false_ne_true) (ev_some (h2 fun q => g (q _ List.mem_cons_self)).symm)
theorem impl_sketchOk_ev (c s mn mx : Int) (h r : List Int) (R : List (List Int)) : Ev (fun k => impl_SketchOk.f k c s mn mx h r R) (skOk c s mn mx h r R) := by
  have bad : ¬ SkOk c s mn mx h r R → Ev (fun k => impl_SketchOk.j0 k true c s mn mx h r R) (skOk c s mn mx h r R) := by
    intro hb
    refine Ev.step (fun _ => rfl) ?_
    simp only [impl_SketchOk.j0]
    exact ev_pos (by trivial) (ev_some (skOk_false hb).symm)
  unfold impl_SketchOk.f
  by_cases a1 : h.length = 8
  case neg => exact ev_neg (by omega) (bad fun g => a1 g.2.2.2.2.2.2.2.1.1)
  refine ev_pos (by omega) ?_
  by_cases a2 : r.length = 8
  case neg => exact ev_neg (by omega) (bad fun g => a2 g.2.2.2.2.2.2.2.2.1.1)
  refine ev_pos (by omega) ?_
  by_cases a3 : R.length = 2
  case neg => exact ev_neg (by omega) (bad fun g => a3 g.2.2.2.2.2.1)
  refine ev_pos (by omega) (ev_pos (by omega) ?_)
  by_cases a4 : (rd_L3 R 0).length = 4
  case neg => exact ev_neg (by omega) (bad fun g => a4 g.2.2.2.2.2.2.2.2.2.1.1)
  refine ev_pos (by omega) (ev_pos (by omega) ?_)
  by_cases a5 : (rd_L3 R 1).length = 4
  case neg =>
    have e : (((rd_L3 R 1).length : Int) != 4) = true := by simp; omega
    rw [e]
    exact bad fun g => a5 g.2.2.2.2.2.2.2.2.2.2.1
  have e : (((rd_L3 R 1).length : Int) != 4) = false := by simp; omega
  rw [e]
  clear e bad
  obtain ⟨A, B, rfl⟩ : ∃ A B, R = [A, B] := by
    match R, a3 with
    | [A, B], _ => exact ⟨A, B, rfl⟩
  have eA : rd_L3 [A, B] 0 = A := rfl
  have eB : rd_L3 [A, B] 1 = B := rfl
  rw [eA] at a4
  rw [eB] at a5
  refine Ev.step (fun _ => rfl) ?_
  simp only [impl_SketchOk.j0]
  refine ev_neg (by simp) (Ev.bind (counts_ev c s mn mx h r A B (by omega) (by omega) (by omega) (by omega)) (ev_bind0 rfl (ev_pos ?_ (ev_bind0 rfl ?_))))
  · simp only [List.length_append, List.length_cons, List.length_nil]
    omega
  generalize hys : (((h ++ r) ++ A) ++ B) ++ [c, s, mn, mx] = ys
  have hyl : ys.length = 28 := by
    rw [← hys]
    simp only [List.length_append, List.length_cons, List.length_nil]
    omega
  have hmem : ∀ P : Int → Prop, (∀ x ∈ ys, P x) ↔ (∀ x ∈ h, P x) ∧ (∀ x ∈ r, P x) ∧ (∀ x ∈ A, P x) ∧ (∀ x ∈ B, P x) ∧ P c ∧ P s ∧ P mn ∧ P mx := by
    intro P
    rw [← hys]
    constructor
    · intro q
      exact ⟨fun x hx => q x (by simp [hx]), fun x hx => q x (by simp [hx]), fun x hx => q x (by simp [hx]), fun x hx => q x (by simp [hx]), q c (by simp), q s (by simp), q mn (by simp), q mx (by simp)⟩
    · rintro ⟨q1, q2, q3, q4, q5, q6, q7, q8⟩ x hx
      simp only [List.mem_append, List.mem_cons, List.not_mem_nil, or_false] at hx
      rcases hx with (((hx | hx) | hx) | hx) | rfl | rfl | rfl | rfl
      · exact q1 x hx
      · exact q2 x hx
      · exact q3 x hx
      · exact q4 x hx
      · exact q5
      · exact q6
      · exact q7
      · exact q8
  refine impl_sketchOk_l0 c s mn mx h r [A, B] _ ys (by omega) 28 0 0 (by omega) (by omega) (by omega) (fun q => ?_) (fun q => skOk_false fun g => q ?_)
  · rw [List.drop_zero] at q
    rw [List.drop_zero, Int.zero_add]
    have qq := (hmem _).1 q
    refine impl_sketchOk_l1 c s mn mx h r [A, B] _ ys.sum (by omega) 8 0 (by omega) (fun p => ?_) (fun p => skOk_false fun g => p fun x hx => ?_)
    · rw [List.drop_zero] at p
      by_cases hc : c = 0
      · rw [if_pos hc]
        by_cases hz : ys.sum = 0
        · have z := (hmem _).1 (sum_zero ys q hz)
          have e : (ys.sum == 0) = true := by simpa using hz
          rw [e]
          refine skOk_true.2 ⟨by omega, by omega, by omega, by omega, by omega, rfl, fun _ => ⟨z.2.2.2.2.2.1, z.2.2.2.2.2.2.2⟩, ⟨a1, fun x hx => ⟨qq.1 x hx, fun _ => z.1 x hx⟩⟩, ⟨a2, fun x hx => ⟨⟨(qq.2.1 x hx).1, p x hx⟩, fun _ => z.2.1 x hx⟩⟩, ⟨a4, fun x hx => ⟨qq.2.2.1 x hx, fun _ => z.2.2.1 x hx⟩⟩, ⟨a5, fun x hx => ⟨qq.2.2.2.1 x hx, fun _ => z.2.2.2.1 x hx⟩⟩⟩
        · have e : (ys.sum == 0) = false := by simpa using hz
          rw [e]
          refine skOk_false fun g => hz (zero_sum ys ((hmem _).2 ?_))
          obtain ⟨g1, g2, g3, g4, g5, g6, g7, g8, g9, g10, g11⟩ := g
          have := g7 hc
          exact ⟨fun x hx => (g8.2 x hx).2 hc, fun x hx => (g9.2 x hx).2 hc, fun x hx => (g10.2 x hx).2 hc, fun x hx => (g11.2 x hx).2 hc, hc, this.1, by omega, this.2⟩
      · rw [if_neg hc]
        by_cases hm : mn ≤ mx ∧ mx ≤ 1000000
        · rw [decide_eq_true hm]
          refine skOk_true.2 ⟨qq.2.2.2.2.1, qq.2.2.2.2.2.1, by omega, by omega, hm.1, rfl, fun z => absurd z hc, ⟨a1, fun x hx => ⟨qq.1 x hx, fun z => absurd z hc⟩⟩, ⟨a2, fun x hx => ⟨⟨(qq.2.1 x hx).1, p x hx⟩, fun z => absurd z hc⟩⟩, ⟨a4, fun x hx => ⟨qq.2.2.1 x hx, fun z => absurd z hc⟩⟩, ⟨a5, fun x hx => ⟨qq.2.2.2.1 x hx, fun z => absurd z hc⟩⟩⟩
        · rw [decide_eq_false hm]
          exact skOk_false fun g => hm ⟨g.2.2.2.2.1, g.2.2.2.1.2⟩
    · rw [List.drop_zero] at hx
      exact (g.2.2.2.2.2.2.2.2.1.2 x hx).1.2
  · rw [List.drop_zero]
    obtain ⟨g1, g2, g3, g4, g5, g6, g7, g8, g9, g10, g11⟩ := g
    exact (hmem _).2 ⟨fun x hx => (g8.2 x hx).1, fun x hx => by have := (g9.2 x hx).1; omega, fun x hx => (g10.2 x hx).1, fun x hx => (g11.2 x hx).1, g1, g2, by omega, by omega⟩
def clipV (a : Int) : Nat := if a ≤ 0 then 0 else if a ≤ 1000000 then a.toNat else 1000000
theorem clipV_le (a : Int) : clipV a ≤ 1000000 := by
  unfold clipV
  split
  · omega
  · split <;> omega
def bl : Nat → Nat → Nat
  | 0, _ => 0
  | d + 1, x => if x = 0 then 0 else bl d (x / 2) + 1
theorem bl_le (d x : Nat) : bl d x ≤ d := by
  induction d generalizing x with
  | zero => exact Nat.le_refl _
  | succ d ih =>
    unfold bl
    split
    · omega
    · have := ih (x / 2)
      omega
theorem bl_more (d e : Nat) : ∀ x, x < 2 ^ d → bl (d + e) x = bl d x := by
  induction d with
  | zero =>
    intro x hx
    obtain rfl : x = 0 := by omega
    cases e <;> simp [bl]
  | succ d ih =>
    intro x hx
    rw [show d + 1 + e = (d + e) + 1 by omega]
    unfold bl
    rw [Nat.pow_succ] at hx
    rw [ih (x / 2) (by omega)]
theorem bl_shift (d j : Nat) : ∀ x, 2 ^ j ≤ x → bl (d + j) x = bl d (x / 2 ^ j) + j := by
  induction j with
  | zero =>
    intro x _
    simp
  | succ j ih =>
    intro x hx
    rw [Nat.pow_succ] at hx
    have hp : 0 < 2 ^ j := Nat.two_pow_pos j
    rw [show d + (j + 1) = (d + j) + 1 by omega]
    conv => lhs; unfold bl
    rw [if_neg (by omega), ih (x / 2) (by omega), Nat.div_div_eq_div_mul, Nat.mul_comm 2, ← Nat.pow_succ, Nat.succ_eq_add_one]
    omega
theorem tab_is : ∀ t : Fin 256, bt (⟨#[0, 1, 2, 2, 3, 3, 3, 3, 4, 4, 4, 4, 4, 4, 4, 4, 5, 5, 5, 5, 5, 5, 5, 5, 5, 5, 5, 5, 5, 5, 5, 5, 6, 6, 6, 6, 6, 6, 6, 6, 6, 6, 6, 6, 6, 6, 6, 6, 6, 6, 6, 6, 6, 6, 6, 6, 6, 6, 6, 6, 6, 6, 6, 6, 7, 7, 7, 7, 7, 7, 7, 7, 7, 7, 7, 7, 7, 7, 7, 7, 7, 7, 7, 7, 7, 7, 7, 7, 7, 7, 7, 7, 7, 7, 7, 7, 7, 7, 7, 7, 7, 7, 7, 7, 7, 7, 7, 7, 7, 7, 7, 7, 7, 7, 7, 7, 7, 7, 7, 7, 7, 7, 7, 7, 7, 7, 7, 7, 8, 8, 8, 8, 8, 8, 8, 8, 8, 8, 8, 8, 8, 8, 8, 8, 8, 8, 8, 8, 8, 8, 8, 8, 8, 8, 8, 8, 8, 8, 8, 8, 8, 8, 8, 8, 8, 8, 8, 8, 8, 8, 8, 8, 8, 8, 8, 8, 8, 8, 8, 8, 8, 8, 8, 8, 8, 8, 8, 8, 8, 8, 8, 8, 8, 8, 8, 8, 8, 8, 8, 8, 8, 8, 8, 8, 8, 8, 8, 8, 8, 8, 8, 8, 8, 8, 8, 8, 8, 8, 8, 8, 8, 8, 8, 8, 8, 8, 8, 8, 8, 8, 8, 8, 8, 8, 8, 8, 8, 8, 8, 8, 8, 8, 8, 8, 8, 8, 8, 8, 8, 8, 8, 8, 8, 8, 8, 8]⟩ : ByteArray) ((t.val : Nat) : Int) = ((bl 8 t.val : Nat) : Int) := by decide +kernel
theorem tab_at (t : Nat) (h : t < 256) : bt (⟨#[0, 1, 2, 2, 3, 3, 3, 3, 4, 4, 4, 4, 4, 4, 4, 4, 5, 5, 5, 5, 5, 5, 5, 5, 5, 5, 5, 5, 5, 5, 5, 5, 6, 6, 6, 6, 6, 6, 6, 6, 6, 6, 6, 6, 6, 6, 6, 6, 6, 6, 6, 6, 6, 6, 6, 6, 6, 6, 6, 6, 6, 6, 6, 6, 7, 7, 7, 7, 7, 7, 7, 7, 7, 7, 7, 7, 7, 7, 7, 7, 7, 7, 7, 7, 7, 7, 7, 7, 7, 7, 7, 7, 7, 7, 7, 7, 7, 7, 7, 7, 7, 7, 7, 7, 7, 7, 7, 7, 7, 7, 7, 7, 7, 7, 7, 7, 7, 7, 7, 7, 7, 7, 7, 7, 7, 7, 7, 7, 8, 8, 8, 8, 8, 8, 8, 8, 8, 8, 8, 8, 8, 8, 8, 8, 8, 8, 8, 8, 8, 8, 8, 8, 8, 8, 8, 8, 8, 8, 8, 8, 8, 8, 8, 8, 8, 8, 8, 8, 8, 8, 8, 8, 8, 8, 8, 8, 8, 8, 8, 8, 8, 8, 8, 8, 8, 8, 8, 8, 8, 8, 8, 8, 8, 8, 8, 8, 8, 8, 8, 8, 8, 8, 8, 8, 8, 8, 8, 8, 8, 8, 8, 8, 8, 8, 8, 8, 8, 8, 8, 8, 8, 8, 8, 8, 8, 8, 8, 8, 8, 8, 8, 8, 8, 8, 8, 8, 8, 8, 8, 8, 8, 8, 8, 8, 8, 8, 8, 8, 8, 8, 8, 8, 8, 8, 8, 8]⟩ : ByteArray) (t : Int) = ((bl 8 t : Nat) : Int) := tab_is ⟨t, h⟩
set_option maxRecDepth 100000 in
theorem len_ev (x : Nat) (hx : x ≤ 1000000) : Ev (fun k => bits_Len.f k (x : Int)) ((bl 20 x : Nat) : Int) := by
  unfold bits_Len.f
  refine Ev.bind (a := ((bl 20 x : Nat) : Int)) ?_ (ev_some rfl)
  unfold bits_Len64.f
  refine ev_neg (by omega) (Ev.step (fun _ => rfl) ?_)
  unfold bits_Len64.j0
  by_cases h1 : 65536 ≤ x
  · refine ev_pos (by omega) (ev_neg (by omega) ?_)
    have e : ((x : Int) / 65536) % 256 = ((x / 65536 : Nat) : Int) := by omega
    rw [e, tab_at _ (by omega)]
    refine ev_pos (by omega) (ev_pos (by omega) (ev_some ?_))
    have hb := bl_le 8 (x / 65536)
    have h4 : bl 8 (x / 65536) = bl 4 (x / 65536) := bl_more 4 4 _ (by omega)
    have h20 : bl 20 x = bl 4 (x / 65536) + 16 := bl_shift 4 16 x (by omega)
    rw [h20, ← h4]
    generalize bl 8 (x / 65536) = q at hb
    unfold wrap64
    omega
  · refine ev_neg (by omega) ?_
    by_cases h2 : 256 ≤ x
    · refine ev_pos (by omega) ?_
      have e : ((x : Int) / 256) % 256 = ((x / 256 : Nat) : Int) := by omega
      rw [e, tab_at _ (by omega)]
      refine ev_pos (by omega) (ev_pos (by omega) (ev_some ?_))
      have hb := bl_le 8 (x / 256)
      have h4 : bl 12 (x / 256) = bl 8 (x / 256) := bl_more 8 4 _ (by omega)
      have h20 : bl 20 x = bl 12 (x / 256) + 8 := bl_shift 12 8 x (by omega)
      rw [h20, h4]
      generalize bl 8 (x / 256) = q at hb
      unfold wrap64
      omega
    · refine ev_neg (by omega) ?_
      have e : (x : Int) % 256 = ((x : Nat) : Int) := by omega
      rw [e, tab_at _ (by omega)]
      refine ev_pos (by omega) (ev_pos (by omega) (ev_some ?_))
      have hb := bl_le 8 x
      have h20 : bl 20 x = bl 8 x := bl_more 8 12 _ (by omega)
      rw [h20]
      generalize bl 8 x = q at hb
      unfold wrap64
      omega
def bucketOf (a : Int) : Int := (((bl 20 (clipV a) + 2) / 3 : Nat) : Int)
theorem third (q : Nat) (h : q ≤ 20) : wrap64 (Int.tdiv (wrap64 ((q : Int) + 2)) 3) = (((q + 2) / 3 : Nat) : Int) := by
  rw [w64 (x := (q : Int) + 2) (by omega) (by omega), Int.tdiv_eq_ediv_of_nonneg (by omega), w64 (by omega) (by omega)]
  omega
theorem impl_bucketOf_ev (a : Int) : Ev (fun k => impl_BucketOf.f k a) (bucketOf a) := by
  unfold impl_BucketOf.f bucketOf clipV
  by_cases h : a ≤ 0
  · rw [if_pos h]
    exact ev_pos h (ev_some rfl)
  · rw [if_neg h]
    refine ev_neg h ?_
    have e : IntKind.u64.wrap (mn a 1000000) = (((if a ≤ 1000000 then a.toNat else 1000000 : Nat)) : Int) := by
      unfold mn
      simp only [IntKind.wrap, IntKind.bits, IntKind.signed, Bool.false_and, Bool.false_eq_true, if_false]
      split <;> split <;> omega
    rw [e]
    have hc : (if a ≤ 1000000 then a.toNat else 1000000 : Nat) ≤ 1000000 := by split <;> omega
    exact Ev.bind (len_ev _ hc) (ev_some (third _ (bl_le 20 _)))
theorem spec_clip_is (a : Int) : spec_l2Clip.f a 1000000 = some ((clipV a : Nat) : Int) := by
  unfold spec_l2Clip.f spec_l1Min.f spec_l1Max.f clipV
  by_cases h : a < 1000000
  · rw [if_pos h]
    simp only [Option.bind_some]
    by_cases h2 : a ≤ 0
    · rw [if_pos h2]
      by_cases h3 : 0 > a
      · rw [if_pos h3]
        rfl
      · rw [if_neg h3]
        simp only [Option.bind_some, Option.some.injEq]
        omega
    · rw [if_neg (by omega), if_neg h2, if_pos (by omega)]
      simp only [Option.bind_some, Option.some.injEq]
      omega
  · rw [if_neg h]
    simp only [Option.bind_some]
    rw [if_neg (by omega), if_neg (by omega : ¬ a ≤ 0)]
    by_cases h2 : a ≤ 1000000
    · rw [if_pos h2]
      simp only [Option.bind_some, Option.some.injEq]
      omega
    · rw [if_neg h2]
      rfl
theorem spec_bucket_at (d : Nat) : ∀ (x n : Nat), x < 2 ^ d → n + d ≤ 20 → Ev (fun k => spec_BucketOf.l0 k (x : Int) (n : Int)) (((n + bl d x + 2) / 3 : Nat) : Int) := by
  induction d with
  | zero =>
    intro x n hx hn
    obtain rfl : x = 0 := by omega
    refine Ev.step (fun _ => rfl) ?_
    simp only [spec_BucketOf.l0]
    exact ev_neg (by omega) (ev_some (third n (by omega)))
  | succ d ih =>
    intro x n hx hn
    refine Ev.step (fun _ => rfl) ?_
    simp only [spec_BucketOf.l0]
    unfold bl
    by_cases h0 : x = 0
    · rw [if_pos h0]
      exact ev_neg (by omega) (ev_some (third n (by omega)))
    · rw [if_neg h0]
      refine ev_pos (by omega) ?_
      have e : wrap64 (Int.tdiv (x : Int) 2) = ((x / 2 : Nat) : Int) := by
        have : x < 2 ^ 20 := Nat.lt_of_lt_of_le hx (Nat.pow_le_pow_right (by omega) (by omega))
        rw [Int.tdiv_eq_ediv_of_nonneg (by omega), w64 (by omega) (by omega)]
        omega
      rw [e, wsucc (by omega)]
      rw [Nat.pow_succ] at hx
      have := ih (x / 2) (n + 1) (by omega) (by omega)
      rw [show n + (bl d (x / 2) + 1) + 2 = n + 1 + bl d (x / 2) + 2 by omega]
      exact this
theorem spec_bucketOf_ev (a : Int) : Ev (fun k => spec_BucketOf.f k a) (bucketOf a) := by
  unfold spec_BucketOf.f bucketOf
  refine ev_bind0 (spec_clip_is a) ?_
  have := clipV_le a
  have h := spec_bucket_at 20 (clipV a) 0 (by omega) (by omega)
  rw [Nat.zero_add] at h
  exact h
def mixN (a : Int) : Nat := (clipV a * 40503 + 12345) % 65536 ^^^ (clipV a * 40503 + 12345) % 65536 / 256
theorem mixN_lt (a : Int) : mixN a < 65536 := by
  unfold mixN
  have h1 : (clipV a * 40503 + 12345) % 65536 < 2 ^ 16 := by omega
  have := Nat.xor_lt_two_pow (n := 16) h1 (show (clipV a * 40503 + 12345) % 65536 / 256 < 2 ^ 16 by omega)
  omega
theorem mix_val (a : Int) : Go.bits .xor .i64 (Int.tmod (wrap64 (wrap64 (((clipV a : Nat) : Int) * 40503) + 12345)) 65536) (wrap64 (Int.tdiv (Int.tmod (wrap64 (wrap64 (((clipV a : Nat) : Int) * 40503) + 12345)) 65536) 256)) = ((mixN a : Nat) : Int) := by
  have hc := clipV_le a
  have e : Int.tmod (wrap64 (wrap64 (((clipV a : Nat) : Int) * 40503) + 12345)) 65536 = (((clipV a * 40503 + 12345) % 65536 : Nat) : Int) := by
    rw [w64 (x := ((clipV a : Nat) : Int) * 40503) (by omega) (by omega), w64 (by omega) (by omega), Int.tmod_eq_emod_of_nonneg (by omega)]
    omega
  rw [e]
  clear e
  have e2 : wrap64 (Int.tdiv (((clipV a * 40503 + 12345) % 65536 : Nat) : Int) 256) = (((clipV a * 40503 + 12345) % 65536 / 256 : Nat) : Int) := by
    rw [Int.tdiv_eq_ediv_of_nonneg (by omega), w64 (by omega) (by omega)]
    omega
  rw [e2]
  clear e2
  exact xor64 _ _ (by omega) (by omega)
theorem impl_clip_is (a : Int) : impl_limited.f a 0 1000000 = some ((clipV a : Nat) : Int) := by
  unfold impl_limited.f mn mx clipV
  congr 1
  repeat' split
  all_goals omega
theorem impl_mix_is (a : Int) : impl_Mix.f a = some ((mixN a : Nat) : Int) := by
  unfold impl_Mix.f
  rw [impl_clip_is, Option.bind_some, mix_val]
theorem spec_mix_is (a : Int) : spec_Mix.f a = some ((mixN a : Nat) : Int) := by
  unfold spec_Mix.f
  rw [spec_clip_is, Option.bind_some, mix_val]
def rankV (n : Int) : Int := if mixN n = 0 then 17 else ((Lib.ctz 64 (mixN n) : Nat) : Int) + 1
theorem spec_rank_at (m : Nat) : ∀ (j : Nat) (r : Int), 2 ^ j * (2 * m + 1) < 65536 → 0 ≤ r → r + j ≤ 1000 → Ev (fun k => spec_RankOf.l0 k ((2 ^ j * (2 * m + 1) : Nat) : Int) r) (r + (j : Int)) := by
  intro j
  induction j with
  | zero =>
    intro r hx h0 h1
    refine Ev.step (fun _ => rfl) ?_
    simp only [spec_RankOf.l0]
    refine ev_neg ?_ (ev_some (by omega))
    rw [Int.tmod_eq_emod_of_nonneg (by omega)]
    omega
  | succ j ih =>
    intro r hx h0 h1
    have e : 2 ^ (j + 1) * (2 * m + 1) = 2 * (2 ^ j * (2 * m + 1)) := by rw [Nat.pow_succ]; simp [Nat.mul_comm, Nat.mul_left_comm]
    rw [e] at hx ⊢
    have ih' := ih (r + 1) (by omega) (by omega) (by omega)
    generalize 2 ^ j * (2 * m + 1) = y at hx ih'
    refine Ev.step (fun _ => rfl) ?_
    simp only [spec_RankOf.l0]
    refine ev_pos ?_ ?_
    · rw [Int.tmod_eq_emod_of_nonneg (by omega)]
      omega
    · rw [Int.tdiv_eq_ediv_of_nonneg (by omega), w64 (x := ((2 * y : Nat) : Int) / 2) (by omega) (by omega), w64 (x := r + 1) (by omega) (by omega), show ((2 * y : Nat) : Int) / 2 = (y : Int) by omega, show r + ((j + 1 : Nat) : Int) = r + 1 + (j : Int) by omega]
      exact ih'
theorem rank_lt (n : Int) (h : mixN n ≠ 0) : ∃ m, mixN n = 2 ^ Lib.ctz 64 (mixN n) * (2 * m + 1) ∧ Lib.ctz 64 (mixN n) < 64 := by
  have h2 := mixN_lt n
  have := Lib.ctzFrom_spec 64 (mixN n) (by omega) (by omega)
  unfold Lib.ctz
  rw [if_neg h]
  exact this
theorem spec_rank_ev (n : Int) : Ev (fun k => spec_RankOf.f k n) (rankV n) := by
  unfold spec_RankOf.f rankV
  refine ev_bind0 (spec_mix_is n) ?_
  by_cases h : mixN n = 0
  · rw [if_pos h]
    exact ev_pos (by omega) (ev_some rfl)
  · rw [if_neg h]
    refine ev_neg (by omega) ?_
    obtain ⟨m, hm, hk⟩ := rank_lt n h
    have hl := mixN_lt n
    have e := spec_rank_at m (Lib.ctz 64 (mixN n)) 1 (by rw [← hm]; exact hl) (by omega) (by omega)
    rw [← hm] at e
    rw [Int.add_comm]
    exact e
def bkN (v : Int) : Nat := (bl 20 (clipV v) + 2) / 3
theorem bucketOf_is (v : Int) : bucketOf v = ((bkN v : Nat) : Int) := rfl
theorem bkN_lt (v : Int) : bkN v < 8 := by
  have := bl_le 20 (clipV v)
  unfold bkN
  omega
theorem rankV_range (v : Int) : 1 ≤ rankV v ∧ rankV v ≤ 17 := by
  unfold rankV
  by_cases h : mixN v = 0
  · rw [if_pos h]; omega
  · rw [if_neg h]
    obtain ⟨m, hm, hk⟩ := rank_lt v h
    have hl := mixN_lt v
    have hp : Lib.ctz 64 (mixN v) < 16 := by
      rcases Nat.lt_or_ge (Lib.ctz 64 (mixN v)) 16 with h' | h'
      · exact h'
      · have h2 : 2 ^ 16 ≤ 2 ^ Lib.ctz 64 (mixN v) := Nat.pow_le_pow_right (by omega) h'
        have h3 : 2 ^ Lib.ctz 64 (mixN v) * 1 ≤ 2 ^ Lib.ctz 64 (mixN v) * (2 * m + 1) := Nat.mul_le_mul_left _ (by omega)
        omega
    omega
theorem impl_rank_is (v : Int) : impl_RankOf.f v = some (rankV v) := by
  unfold impl_RankOf.f rankV
  rw [impl_mix_is, Option.bind_some]
  have hl := mixN_lt v
  by_cases h : mixN v = 0
  · rw [if_pos (by omega), if_pos h]
  · rw [if_neg (by omega), if_pos (by omega), if_neg h, Int.toNat_natCast]
theorem impl_add_is {a b : Int} (ha : 0 ≤ a ∧ a ≤ 1000000000) (hb : 0 ≤ b ∧ b ≤ 1000000000) : impl_Add.f a b = some (sadd a b) := by
  unfold impl_Add.f impl_limited.f mn mx
  have e : ∀ x : Int, 0 ≤ x ∧ x ≤ 1000000000 → (if 1000000000 < (if x < 0 then 0 else x) then 1000000000 else (if x < 0 then 0 else x)) = x := by
    intro x hx
    repeat' split
    all_goals omega
  rw [e a ha, e b hb, Option.bind_some, Option.bind_some, w64 (x := a + b) (by omega) (by omega)]
  unfold sadd
  congr 1
  repeat' split
  all_goals omega
theorem spec_add_is {a b : Int} (ha : 0 ≤ a ∧ a ≤ 1000000000) (hb : 0 ≤ b ∧ b ≤ 1000000000) : spec_Add.f a b = some (sadd a b) := by
  have c : ∀ x : Int, 0 ≤ x ∧ x ≤ 1000000000 → spec_l2Clip.f x 1000000000 = some x := by
    intro x hx
    unfold spec_l2Clip.f spec_l1Min.f spec_l1Max.f
    by_cases h : x < 1000000000
    · simp only [if_pos h, Option.bind_some]
      split
      · congr 1; omega
      · rfl
    · simp only [if_neg h, Option.bind_some]
      rw [if_neg (by omega), show x = 1000000000 by omega]
      rfl
  unfold spec_Add.f spec_l1Min.f
  rw [c a ha, c b hb, Option.bind_some, Option.bind_some, w64 (x := a + b) (by omega) (by omega)]
  unfold sadd
  by_cases h : a + b < 1000000000
  · rw [if_pos h, if_neg (by omega)]
    rfl
  · rw [if_neg h]
    split
    · rfl
    · simp only [Option.bind_some]
      congr 1
      omega
theorem impl_copy_at (c s lo hi : Int) (h r : List Int) (R : List (List Int)) (hR : R.length ≤ 1048576) (hx : ∀ x ∈ R, x.length ≤ 1048576) (d : Nat) : ∀ i : Nat, i + d = R.length →
    Ev (fun k => impl_copySketch.l0 k R (R.length : Int) (i : Int) c s lo hi h r (R.take i)) (c, s, lo, hi, h, r, R) := by
  induction d with
  | zero =>
    intro i hi'
    refine Ev.step (fun _ => rfl) ?_
    simp only [impl_copySketch.l0]
    exact ev_neg (by omega) (ev_some (by rw [show i = R.length by omega, List.take_length]))
  | succ d ih =>
    intro i hi'
    refine Ev.step (fun _ => rfl) ?_
    simp only [impl_copySketch.l0]
    have hiR : i < R.length := by omega
    have hl := hx _ (List.getElem_mem hiR)
    rw [wsucc (by omega), rdR_get hiR]
    refine ev_pos (by omega) (ev_pos (by omega) (ev_pos (by omega) (ev_bind0 (a := R[i]) (by unfold impl_copyInts.f; rw [if_pos (by simp; omega), List.nil_append]) (ev_pos (by simp; omega) ?_))))
    rw [← List.take_succ_eq_append_getElem hiR]
    exact ih (i + 1) (by omega)
theorem impl_copy_ev (c s lo hi : Int) (h r : List Int) (R : List (List Int)) (hh : h.length ≤ 1048576) (hr : r.length ≤ 1048576) (hR : R.length ≤ 1048576) (hx : ∀ x ∈ R, x.length ≤ 1048576) :
    Ev (fun k => impl_copySketch.f k c s lo hi h r R) (c, s, lo, hi, h, r, R) := by
  unfold impl_copySketch.f
  refine ev_bind0 (a := h) (by unfold impl_copyInts.f; rw [if_pos (by simp; omega), List.nil_append]) (ev_bind0 (a := r) (by unfold impl_copyInts.f; rw [if_pos (by simp; omega), List.nil_append]) ?_)
  have := impl_copy_at c s lo hi h r R hR hx R.length 0 (by omega)
  simpa using this
theorem spec_copy_at (c s lo hi : Int) (h r : List Int) (R : List (List Int)) (hR : R.length ≤ 1048576) (hx : ∀ x ∈ R, x.length ≤ 1048576) (d : Nat) : ∀ i : Nat, i + d = R.length →
    Ev (fun k => spec_l3Copy.l0 k (i : Int) c s lo hi h r R c s lo hi h r (R.take i)) (c, s, lo, hi, h, r, R) := by
  induction d with
  | zero =>
    intro i hi'
    refine Ev.step (fun _ => rfl) ?_
    simp only [spec_l3Copy.l0]
    exact ev_neg (by omega) (ev_some (by rw [show i = R.length by omega, List.take_length]))
  | succ d ih =>
    intro i hi'
    refine Ev.step (fun _ => rfl) ?_
    simp only [spec_l3Copy.l0]
    have hiR : i < R.length := by omega
    have hl := hx _ (List.getElem_mem hiR)
    rw [wsucc (by omega), rdR_get hiR]
    simp only [Option.bind_some]
    refine ev_pos (by omega) (ev_pos (by omega) (ev_pos (by simp; omega) (ev_pos (by simp; omega) ?_)))
    rw [List.nil_append, ← List.take_succ_eq_append_getElem hiR]
    exact ih (i + 1) (by omega)
theorem spec_copy_ev (c s lo hi : Int) (h r : List Int) (R : List (List Int)) (hh : h.length ≤ 1048576) (hr : r.length ≤ 1048576) (hR : R.length ≤ 1048576) (hx : ∀ x ∈ R, x.length ≤ 1048576) :
    Ev (fun k => spec_l3Copy.f k c s lo hi h r R) (c, s, lo, hi, h, r, R) := by
  unfold spec_l3Copy.f
  simp only [Option.bind_some]
  refine ev_pos (by simp; omega) (ev_pos (by simp; omega) ?_)
  have := spec_copy_at c s lo hi h r R hR hx R.length 0 (by omega)
  simpa using this
theorem two_rows {R : List (List Int)} (h : R.length = 2) : ∃ p q, R = [p, q] := by
  match R, h with
  | [p, q], _ => exact ⟨p, q, rfl⟩
theorem skOk_su {c s lo hi : Int} {h r p q : List Int} (ok : SkOk c s lo hi h r [p, q]) : Su.Ok ⟨c, s, lo, hi, h, r, p, q⟩ := by
  obtain ⟨h1, h2, h3, h4, h5, h6, h7, h8, h9, h10, h11⟩ := ok
  exact ⟨h1, h2, h3, h4, h5, h7, h8, h9, h10, h11⟩
theorem su_skOk {u : Su} (ok : u.Ok) : SkOk u.c u.s u.mn u.mx u.h u.r [u.p, u.q] := ⟨ok.hc, ok.hs, ok.hmn, ok.hmx, ok.hle, rfl, ok.hz, ok.hh, ok.hr, ok.hp, ok.hq⟩
theorem lok_getD {xs : List Int} {n : Nat} {most : Int} {z : Prop} (h : LOk xs n most z) {i : Nat} (hi : i < n) : 0 ≤ xs.getD i 0 ∧ xs.getD i 0 ≤ most := by
  have h1 : i < xs.length := by rw [h.1]; exact hi
  rw [List.getD_eq_getElem?_getD, List.getElem?_eq_getElem h1]
  exact (h.2 _ (List.getElem_mem h1)).1
def suPut (u : Su) (v : Int) : Su := Su.ins bkN mixN rankV u v
def suOut (u : Su) (b : Bool) : Int × Int × Int × Int × List Int × List Int × List (List Int) × Bool := (u.c, u.s, u.mn, u.mx, u.h, u.r, [u.p, u.q], b)
noncomputable def insV (c s lo hi : Int) (h r : List Int) (R : List (List Int)) (v : Int) : Int × Int × Int × Int × List Int × List Int × List (List Int) × Bool :=
  if skOk c s lo hi h r R = true ∧ 0 ≤ v ∧ v ≤ 1000000 then suOut (suPut ⟨c, s, lo, hi, h, r, rd_L3 R 0, rd_L3 R 1⟩ v) true else (c, s, lo, hi, h, r, R, false)
theorem impl_g_ev (u : Su) (ok : u.Ok) (v : Int) (hv : 0 ≤ v ∧ v ≤ 1000000) : Ev (fun k => impl_Insert.g k u.c u.s u.mn u.mx u.h u.r [u.p, u.q] v) (suOut (suPut u v) true) := by
  have hb := bkN_lt v
  have hm := mixN_lt v
  have q0 : ∀ p q : List Int, [p, q].getD 0 [] = p := fun _ _ => rfl
  have q1 : ∀ p q : List Int, [p, q].getD 1 [] = q := fun _ _ => rfl
  unfold impl_Insert.g
  refine ev_bind0 (impl_add_is ok.hc (by omega)) (ev_bind0 (impl_add_is ok.hs (by omega)) ((Ev.bind (impl_bucketOf_ev v) (ev_bind0 (impl_mix_is v) ?_))))
  rw [bucketOf_is]
  simp only [Int.toNat_natCast, q0, q1]
  refine ev_bind0 (impl_add_is (lok_getD ok.hh hb) (by omega)) (ev_bind0 (impl_rank_is v) (ev_bind0 (impl_add_is (lok_getD ok.hp (by omega)) (by omega)) (ev_bind0 (impl_add_is (lok_getD ok.hq (by omega)) (by omega)) (ev_pos ⟨ok.hh.1, ok.hr.1, rfl, ok.hp.1, ok.hq.1, by omega, by omega, by omega, by omega⟩ (ev_some ?_)))))
  have hz := ok.hz
  have hle := ok.hle
  have hmn := ok.hmn
  simp only [suPut, suOut, Su.ins, upd, Nat.zero_add, Nat.add_comm 1, Prod.mk.injEq, true_and, and_true]
  refine ⟨?_, ?_, ?_⟩
  · by_cases e : u.c = 0
    · rw [if_pos e, if_pos e]
    · rw [if_neg e, if_neg e]
      simp only [mn, lo2]
      repeat' split
      all_goals omega
  · by_cases e : u.c = 0
    · have := hz e
      rw [if_pos e]
      simp only [hi2]
      split <;> omega
    · rw [if_neg e]
      simp only [mx, hi2]
      repeat' split
      all_goals omega
  · congr 1
    simp only [mx, hi2]
    repeat' split
    all_goals omega
theorem impl_insert_ev (c s lo hi : Int) (h r : List Int) (R : List (List Int)) (v : Int) (hh : h.length ≤ 1048576) (hr : r.length ≤ 1048576) (hR : R.length ≤ 1048576) (hx : ∀ x ∈ R, x.length ≤ 1048576) :
    Ev (fun k => impl_Insert.f k c s lo hi h r R v) (insV c s lo hi h r R v) := by
  unfold impl_Insert.f insV
  refine Ev.bind (impl_copy_ev c s lo hi h r R hh hr hR hx) (ev_pos ⟨rfl, rfl, rfl, rfl, rfl, rfl, rfl⟩ (Ev.bind (impl_sketchOk_ev c s lo hi h r R) ?_))
  cases ok : skOk c s lo hi h r R with
  | false =>
    rw [if_neg (by simp)]
    exact ev_neg (by simp) (ev_some rfl)
  | true =>
    have hok := skOk_true.1 ok
    obtain ⟨p, q, rfl⟩ := two_rows hok.2.2.2.2.2.1
    refine ev_pos (by trivial) (ev_bind0 (within_is v 0 1000000) ?_)
    by_cases hv : 0 ≤ v ∧ v ≤ 1000000
    · rw [if_pos ⟨by trivial, hv⟩]
      exact ev_pos (by simp [hv]) (impl_g_ev ⟨c, s, lo, hi, h, r, p, q⟩ (skOk_su hok) v hv)
    · rw [if_neg (fun e => hv e.2)]
      exact ev_neg (by simp; omega) (ev_some rfl)
theorem spec_g_ev (u : Su) (ok : u.Ok) (v : Int) (hv : 0 ≤ v ∧ v ≤ 1000000) : Ev (fun k => spec_Insert.g k u.c u.s u.mn u.mx u.h u.r [u.p, u.q] v) (suOut (suPut u v) true) := by
  have hb := bkN_lt v
  have hm := mixN_lt v
  have q0 : ∀ p q : List Int, [p, q].getD 0 [] = p := fun _ _ => rfl
  have q1 : ∀ p q : List Int, [p, q].getD 1 [] = q := fun _ _ => rfl
  have emx : ∀ x y : Int, spec_l1Max.f x y = some (hi2 x y) := by
    intro x y
    unfold spec_l1Max.f hi2
    split <;> rfl
  have emn : ∀ x y : Int, spec_l1Min.f x y = some (lo2 x y) := by
    intro x y
    unfold spec_l1Min.f lo2
    split <;> rfl
  unfold spec_Insert.g
  refine ev_bind0 (spec_add_is ok.hc (by omega)) (ev_bind0 (spec_add_is ok.hs (by omega)) ((ev_bind0 (emn _ _) (ev_bind0 (emx _ _) (Ev.bind (spec_bucketOf_ev v) (ev_bind0 (spec_mix_is v) ?_))))))
  rw [bucketOf_is]
  simp only [Int.toNat_natCast, q0, q1]
  refine ev_bind0 (spec_add_is (lok_getD ok.hh hb) (by omega)) (Ev.bind (spec_rank_ev v) (ev_bind0 (emx _ _) (ev_bind0 (spec_add_is (lok_getD ok.hp (by omega)) (by omega)) (ev_bind0 (spec_add_is (lok_getD ok.hq (by omega)) (by omega)) (ev_pos ⟨ok.hh.1, ok.hr.1, rfl, ok.hp.1, ok.hq.1, by omega, by omega, by omega, by omega⟩ (ev_some ?_))))))
  have hz := ok.hz
  have hle := ok.hle
  have hmn := ok.hmn
  simp only [suPut, suOut, Su.ins, upd, Nat.zero_add, Nat.add_comm 1]
theorem spec_insert_ev (c s lo hi : Int) (h r : List Int) (R : List (List Int)) (v : Int) (hh : h.length ≤ 1048576) (hr : r.length ≤ 1048576) (hR : R.length ≤ 1048576) (hx : ∀ x ∈ R, x.length ≤ 1048576) :
    Ev (fun k => spec_Insert.f k c s lo hi h r R v) (insV c s lo hi h r R v) := by
  unfold spec_Insert.f insV
  refine Ev.bind (spec_copy_ev c s lo hi h r R hh hr hR hx) (ev_pos ⟨rfl, rfl, rfl, rfl, rfl, rfl, rfl⟩ (Ev.bind (spec_sketchOk_ev c s lo hi h r R) ?_))
  cases ok : skOk c s lo hi h r R with
  | false =>
    rw [if_neg (by simp)]
    exact ev_neg (by simp) (ev_some rfl)
  | true =>
    have hok := skOk_true.1 ok
    obtain ⟨p, q, rfl⟩ := two_rows hok.2.2.2.2.2.1
    refine ev_pos (by trivial) (ev_bind0 (l1In_is v 0 1000000) ?_)
    by_cases hv : 0 ≤ v ∧ v ≤ 1000000
    · rw [if_pos ⟨by trivial, hv⟩]
      exact ev_pos (by simp [hv]) (spec_g_ev ⟨c, s, lo, hi, h, r, p, q⟩ (skOk_su hok) v hv)
    · rw [if_neg (fun e => hv e.2)]
      exact ev_neg (by simp; omega) (ev_some rfl)
def suT (u : Su) : Int × Int × Int × Int × List Int × List Int × List (List Int) := (u.c, u.s, u.mn, u.mx, u.h, u.r, [u.p, u.q])
def suInsO (u : Su) (v : Int) : Su := Su.insO bkN mixN rankV u v
def suOf (l : List Int) : Su := Su.of bkN mixN rankV l
theorem rk17 : ∀ v, 0 ≤ rankV v ∧ rankV v ≤ 17 := fun v => by have := rankV_range v; omega
theorem suInsO_ok {u : Su} (h : u.Ok) (v : Int) : (suInsO u v).Ok := Su.insO_ok bkN mixN rankV rk17 h v
theorem suOf_ok (l : List Int) : (suOf l).Ok := Su.of_ok bkN mixN rankV rk17 l
theorem ins_at {u : Su} (h : u.Ok) (v : Int) : ∃ t, insV u.c u.s u.mn u.mx u.h u.r [u.p, u.q] v = suOut (suInsO u v) t := by
  unfold insV suInsO Su.insO
  rw [skOk_true.2 (su_skOk h)]
  by_cases hv : 0 ≤ v ∧ v ≤ 1000000
  · rw [if_pos ⟨rfl, hv⟩, if_pos hv]
    exact ⟨true, rfl⟩
  · rw [if_neg (fun e => hv e.2), if_neg hv]
    exact ⟨false, rfl⟩
theorem su_lens {u : Su} (h : u.Ok) : u.h.length ≤ 1048576 ∧ u.r.length ≤ 1048576 ∧ [u.p, u.q].length ≤ 1048576 ∧ ∀ x ∈ [u.p, u.q], x.length ≤ 1048576 := by
  have h1 := h.hh.1
  have h2 := h.hr.1
  have h3 := h.hp.1
  have h4 := h.hq.1
  refine ⟨by omega, by omega, by simp, fun x hx => ?_⟩
  simp only [List.mem_cons, List.not_mem_nil, or_false] at hx
  rcases hx with rfl | rfl <;> omega
theorem impl_sketched_at (l : List Int) (hl : l.length ≤ 1048576) (d : Nat) : ∀ (i : Nat) (u : Su), u.Ok → i + d = l.length →
    Ev (fun k => impl_Sketched.l0 k l (l.length : Int) (i : Int) u.c u.s u.mn u.mx u.h u.r [u.p, u.q]) (suT ((l.drop i).foldl suInsO u)) := by
  induction d with
  | zero =>
    intro i u hu hi
    refine Ev.step (fun _ => rfl) ?_
    simp only [impl_Sketched.l0]
    exact ev_neg (by omega) (ev_some (by rw [List.drop_of_length_le (by omega)]; rfl))
  | succ d ih =>
    intro i u hu hi
    refine Ev.step (fun _ => rfl) ?_
    simp only [impl_Sketched.l0]
    have hil : i < l.length := by omega
    obtain ⟨b1, b2, b3, b4⟩ := su_lens hu
    obtain ⟨t, e⟩ := ins_at hu (rd l (i : Int))
    have hins := impl_insert_ev u.c u.s u.mn u.mx u.h u.r [u.p, u.q] (rd l (i : Int)) b1 b2 b3 b4
    rw [e] at hins
    refine ev_pos (by omega) (ev_pos (by omega) (ev_pos (by omega) (Ev.bind hins ?_)))
    rw [wsucc (by omega)]
    have := ih (i + 1) (suInsO u (rd l (i : Int))) (suInsO_ok hu _) (by omega)
    rw [List.drop_eq_getElem_cons hil, List.foldl_cons, ← rd_get hil]
    exact this
theorem spec_sketched_at (l : List Int) (hl : l.length ≤ 1048576) (d : Nat) : ∀ (i : Nat) (u : Su), u.Ok → i + d = l.length →
    Ev (fun k => spec_Sketched.l0 k l (i : Int) u.c u.s u.mn u.mx u.h u.r [u.p, u.q]) (suT ((l.drop i).foldl suInsO u)) := by
  induction d with
  | zero =>
    intro i u hu hi
    refine Ev.step (fun _ => rfl) ?_
    simp only [spec_Sketched.l0]
    exact ev_neg (by omega) (ev_some (by rw [List.drop_of_length_le (by omega)]; rfl))
  | succ d ih =>
    intro i u hu hi
    refine Ev.step (fun _ => rfl) ?_
    simp only [spec_Sketched.l0]
    have hil : i < l.length := by omega
    obtain ⟨b1, b2, b3, b4⟩ := su_lens hu
    obtain ⟨t, e⟩ := ins_at hu (rd l (i : Int))
    have hins := spec_insert_ev u.c u.s u.mn u.mx u.h u.r [u.p, u.q] (rd l (i : Int)) b1 b2 b3 b4
    rw [e] at hins
    refine ev_pos (by omega) (ev_pos (by omega) (Ev.bind hins ?_))
    rw [wsucc (by omega)]
    have := ih (i + 1) (suInsO u (rd l (i : Int))) (suInsO_ok hu _) (by omega)
    rw [List.drop_eq_getElem_cons hil, List.foldl_cons, ← rd_get hil]
    exact this
theorem impl_sketched_ev (l : List Int) (hl : l.length ≤ 1048576) : Ev (fun k => impl_Sketched.f k l) (suT (suOf l)) := by
  unfold impl_Sketched.f
  refine ev_bind0 rfl ?_
  have := impl_sketched_at l hl l.length 0 Su.new Su.new_ok (by omega)
  exact this
theorem spec_sketched_ev (l : List Int) (hl : l.length ≤ 1048576) : Ev (fun k => spec_Sketched.f k l) (suT (suOf l)) := by
  unfold spec_Sketched.f
  refine ev_bind0 rfl ?_
  have := spec_sketched_at l hl l.length 0 Su.new Su.new_ok (by omega)
  exact this
def sameL {α : Type} (eq : α → α → Bool) : List α → List α → Bool
  | [], [] => true
  | x :: xs, y :: ys => eq x y && sameL eq xs ys
  | [], _ :: _ => false
  | _ :: _, [] => false
theorem sameL_len {α : Type} (eq : α → α → Bool) : ∀ a b : List α, a.length ≠ b.length → sameL eq a b = false
  | [], [], h => absurd rfl h
  | _ :: xs, _ :: ys, h => by
    have := sameL_len eq xs ys (by simpa using h)
    simp [sameL, this]
  | [], _ :: _, _ => rfl
  | _ :: _, [], _ => rfl
theorem sameL_at {α : Type} (eq : α → α → Bool) (a b : List α) (i : Nat) (h : i < a.length) (h1 : i < b.length) :
    sameL eq (a.drop i) (b.drop i) = (eq a[i] b[i] && sameL eq (a.drop (i + 1)) (b.drop (i + 1))) := by
  rw [List.drop_eq_getElem_cons h, List.drop_eq_getElem_cons h1]
  rfl
theorem sameL_end {α : Type} (eq : α → α → Bool) (a b : List α) (i : Nat) (h : a.length ≤ i) (h1 : b.length ≤ i) : sameL eq (a.drop i) (b.drop i) = true := by
  rw [List.drop_eq_nil_of_le h, List.drop_eq_nil_of_le h1]
  rfl
def eqI (x y : Int) : Bool := decide (x = y)
theorem slices_Equal_at (a b : List Int) (hn : a.length ≤ 1048576) (hl : a.length = b.length) (d : Nat) : ∀ (i : Nat), i + d = a.length →
    Ev (fun k => slices_Equal_int_int.l0 k a b (a.length : Int) (i : Int)) (sameL eqI (a.drop i) (b.drop i)) := by
  induction d with
  | zero =>
    intro i hi
    refine Ev.step (fun _ => rfl) ?_
    simp only [slices_Equal_int_int.l0]
    exact ev_neg (by omega) (ev_some (sameL_end eqI a b i (by omega) (by omega)).symm)
  | succ d ih =>
    intro i hi
    refine Ev.step (fun _ => rfl) ?_
    simp only [slices_Equal_int_int.l0]
    rw [sameL_at eqI a b i (by omega) (by omega), rd_get (show i < a.length by omega), rd_get (show i < b.length by omega), wsucc (by omega)]
    refine ev_pos (by omega) (ev_pos (by omega) (ev_pos (by omega) (ev_pos (by omega) ?_)))
    by_cases e : a[i]'(by omega) = b[i]'(by omega)
    · refine ev_pos e ?_
      rw [show eqI (a[i]'(by omega)) (b[i]'(by omega)) = true from decide_eq_true e, Bool.true_and]
      exact ih (i + 1) (by omega)
    · refine ev_neg e (ev_some ?_)
      rw [show eqI (a[i]'(by omega)) (b[i]'(by omega)) = false from decide_eq_false e, Bool.false_and]
theorem slices_Equal_ev (a b : List Int) (hn : a.length ≤ 1048576) : Ev (fun k => slices_Equal_int_int.f k a b) (sameL eqI a b) := by
  unfold slices_Equal_int_int.f
  by_cases hl : a.length = b.length
  · exact ev_pos (by omega) (slices_Equal_at a b hn hl a.length 0 (by omega))
  · exact ev_neg (by omega) (ev_some (sameL_len eqI a b hl).symm)
theorem slices_EqualFunc_at (a b : List (List Int)) (hx : ∀ x ∈ a, x.length ≤ 1048576) (hl : a.length = b.length) : ∀ (g i : Nat), i ≤ a.length → i + g = a.length + 1 →
    Ev (fun k => slices_EqualFunc_int_int_int_int.l0 g k a b i) (sameL (sameL eqI) (a.drop i) (b.drop i)) := by
  intro g
  induction g with
  | zero =>
    intro i hi0 hi
    exact absurd hi (by omega)
  | succ g ih =>
    intro i hi0 hi
    simp only [slices_EqualFunc_int_int_int_int.l0]
    by_cases h : i < a.length
    · simp only [dif_pos h, dif_pos (show i < b.length by omega)]
      rw [sameL_at (sameL eqI) a b i h (by omega)]
      refine Ev.bind (slices_Equal_ev _ _ (hx _ (List.getElem_mem h))) ?_
      cases e : sameL eqI a[i] (b[i]'(by omega)) with
      | true =>
        rw [Bool.true_and]
        exact ev_pos rfl (ih (i + 1) (by omega) (by omega))
      | false =>
        rw [Bool.false_and]
        exact ev_neg (by decide) (ev_some rfl)
    · simp only [dif_neg h]
      exact ev_some (sameL_end (sameL eqI) a b i (by omega) (by omega)).symm
theorem slices_EqualFunc_ev (a b : List (List Int)) (hx : ∀ x ∈ a, x.length ≤ 1048576) : Ev (fun k => slices_EqualFunc_int_int_int_int.f k a b) (sameL (sameL eqI) a b) := by
  unfold slices_EqualFunc_int_int_int_int.f
  by_cases hl : a.length = b.length
  · exact ev_pos hl (slices_EqualFunc_at a b hx hl (a.length + 1) 0 (by omega) (by omega))
  · exact ev_neg hl (ev_some (sameL_len (sameL eqI) a b hl).symm)
def skSame (c s mn mx : Int) (h r : List Int) (R : List (List Int)) (c' s' mn' mx' : Int) (h' r' : List Int) (R' : List (List Int)) : Bool :=
  decide (c = c') && (decide (s = s') && (decide (mn = mn') && (decide (mx = mx') && (sameL eqI h h' && (sameL eqI r r' && sameL (sameL eqI) R R')))))
theorem impl_sketchSame_ev (c s mn mx : Int) (h r : List Int) (R : List (List Int)) (c' s' mn' mx' : Int) (h' r' : List Int) (R' : List (List Int)) (hh : h.length ≤ 1048576) (hr : r.length ≤ 1048576) (_hR : R.length ≤ 1048576) (hx : ∀ x ∈ R, x.length ≤ 1048576) :
    Ev (fun k => impl_SketchSame.f k c s mn mx h r R c' s' mn' mx' h' r' R') (skSame c s mn mx h r R c' s' mn' mx' h' r' R') := by
  unfold impl_SketchSame.f skSame
  by_cases e1 : c = c'
  · by_cases e2 : s = s'
    · by_cases e3 : mn = mn'
      · by_cases e4 : mx = mx'
        · refine ev_pos e1 (ev_pos e2 (ev_pos e3 (ev_pos e4 (Ev.bind (slices_Equal_ev _ _ hh) ?_))))
          rw [decide_eq_true e1, decide_eq_true e2, decide_eq_true e3, decide_eq_true e4]
          simp only [Bool.true_and]
          cases f1 : sameL eqI h h' with
          | false => exact ev_neg (by decide) (ev_some (by simp))
          | true =>
            refine ev_pos rfl (Ev.bind (slices_Equal_ev _ _ hr) ?_)
            simp only [Bool.true_and]
            cases f2 : sameL eqI r r' with
            | false => exact ev_neg (by decide) (ev_some (by simp))
            | true =>
              refine ev_pos rfl ?_
              simp only [Bool.true_and]
              exact Ev.bind (slices_EqualFunc_ev R R' hx) (ev_some rfl)
        · exact ev_pos e1 (ev_pos e2 (ev_pos e3 (ev_neg e4 (ev_some (by simp [e4])))))
      · exact ev_pos e1 (ev_pos e2 (ev_neg e3 (ev_some (by simp [e3]))))
    · exact ev_pos e1 (ev_neg e2 (ev_some (by simp [e2])))
  · exact ev_neg e1 (ev_some (by simp [e1]))
theorem zip_getD (f : Int → Int → Int) : ∀ (xs ys : List Int) (i : Nat), i < xs.length → i < ys.length → (List.zipWith f xs ys).getD i 0 = f (xs.getD i 0) (ys.getD i 0) := by
  intro xs ys i h1 h2
  simp only [List.getD_eq_getElem?_getD]
  rw [List.getElem?_eq_getElem h1, List.getElem?_eq_getElem h2, List.getElem?_eq_getElem (by simp; omega)]
  simp
theorem mx_hi (a b : Int) : mx a b = hi2 a b := by
  unfold mx hi2
  repeat' split
  all_goals omega
theorem impl_merge_ev {a b : Su} (ha : a.Ok) (hb : b.Ok) : Ev (fun k => impl_Merge.f k a.c a.s a.mn a.mx a.h a.r [a.p, a.q] b.c b.s b.mn b.mx b.h b.r [b.p, b.q]) (suOut (Su.mrg a b) true) := by
  obtain ⟨b1, b2, b3, b4⟩ := su_lens ha
  have G : impl_Merge.G a.c a.s a.h a.r [a.p, a.q] b.c b.s b.h b.r [b.p, b.q] := by
    have hz : ∀ (xs ys : List Int) (n : Nat) (z z' : Prop), LOk xs n 1000000000 z → LOk ys n 1000000000 z' → ∀ i, i < n → impl_Add.f (xs.getD i 0) (ys.getD i 0) = some ((List.zipWith sadd xs ys).getD i 0) := by
      intro xs ys n z z' h1 h2 i hi
      rw [zip_getD _ _ _ _ (by rw [h1.1]; exact hi) (by rw [h2.1]; exact hi)]
      exact impl_add_is (lok_getD h1 hi) (lok_getD h2 hi)
    refine ⟨⟨ha.hh.1, ha.hr.1, rfl, hb.hh.1, hb.hr.1, rfl⟩, impl_add_is ha.hc hb.hc, impl_add_is ha.hs hb.hs, hz _ _ _ _ _ ha.hh hb.hh, fun i hi => ?_, fun i hi => ?_⟩
    · rw [zip_getD _ _ _ _ (by rw [ha.hr.1]; exact hi) (by rw [hb.hr.1]; exact hi)]
      exact mx_hi _ _
    · match i, hi with
      | 0, _ => exact ⟨by show (List.zipWith sadd a.p b.p).length = 4; simp [ha.hp.1, hb.hp.1], ha.hp.1, hb.hp.1, hz _ _ _ _ _ ha.hp hb.hp⟩
      | 1, _ => exact ⟨by show (List.zipWith sadd a.q b.q).length = 4; simp [ha.hq.1, hb.hq.1], ha.hq.1, hb.hq.1, hz _ _ _ _ _ ha.hq hb.hq⟩
  have ea := impl_sketchOk_ev a.c a.s a.mn a.mx a.h a.r [a.p, a.q]
  have eb := impl_sketchOk_ev b.c b.s b.mn b.mx b.h b.r [b.p, b.q]
  rw [skOk_true.2 (su_skOk ha)] at ea
  rw [skOk_true.2 (su_skOk hb)] at eb
  unfold impl_Merge.f
  refine Ev.bind ea (ev_pos (by trivial) (Ev.bind eb (ev_pos (by trivial) (Ev.bind (impl_copy_ev a.c a.s a.mn a.mx a.h a.r [a.p, a.q] b1 b2 b3 b4) (ev_pos ⟨⟨rfl, rfl, rfl, rfl, rfl, rfl, rfl⟩, G⟩ (ev_some ?_))))))
  have e1 : impl_Merge.lo a.c a.mn b.c b.mn = if a.c = 0 then b.mn else if b.c = 0 then a.mn else lo2 a.mn b.mn := by
    have := Su.mn0 ha
    have := Su.mn0 hb
    have := ha.hc
    have := hb.hc
    unfold impl_Merge.lo lo2
    repeat' split
    all_goals omega
  rw [e1, mx_hi]
  rfl
theorem eqI_self (l : List Int) : sameL eqI l l = true := by
  induction l with
  | nil => rfl
  | cons x xs ih => simp [sameL, eqI, ih]
theorem eqII_self (l : List (List Int)) : sameL (sameL eqI) l l = true := by
  induction l with
  | nil => rfl
  | cons x xs ih => simp [sameL, eqI_self, ih]
theorem impl_same_su {a : Su} (ha : a.Ok) : Ev (fun k => impl_SketchSame.f k a.c a.s a.mn a.mx a.h a.r [a.p, a.q] a.c a.s a.mn a.mx a.h a.r [a.p, a.q]) true := by
  obtain ⟨b1, b2, b3, b4⟩ := su_lens ha
  have := impl_sketchSame_ev a.c a.s a.mn a.mx a.h a.r [a.p, a.q] a.c a.s a.mn a.mx a.h a.r [a.p, a.q] b1 b2 b3 b4
  have e : skSame a.c a.s a.mn a.mx a.h a.r [a.p, a.q] a.c a.s a.mn a.mx a.h a.r [a.p, a.q] = true := by
    simp [skSame, eqI_self, eqII_self]
  rwa [e] at this
theorem pick_at (l : List Int) (hl : l.length ≤ 281474976702464) (p : Nat) (hp : p ≤ l.length) (r : Int) (xs : List Int) (h0 : 0 < xs.length) (h1 : xs.length ≤ 256) :
    ∃ (v : Int) (q : Nat) (s : Int), spec_l1PickInt.f l p r xs = some (v, (q : Int), s) ∧ q ≤ l.length := by
  obtain ⟨v, q, s, e, hv, hq⟩ := l1Below_is l hl p hp r xs.length h0 h1
  refine ⟨rd xs (v : Int), q, s, ?_, hq⟩
  unfold spec_l1PickInt.f
  rw [e]
  simp only [Option.bind_some]
  rw [if_pos (by omega), if_pos (by omega)]
theorem l3Values_at (l : List Int) (hl : l.length ≤ 281474976702464) (n : Nat) (hn : n ≤ 6) (d : Nat) : ∀ (i p : Nat) (r : Int) (xs : List Int), i + d = n → p ≤ l.length → xs.length = i →
    ∃ (ys : List Int) (q : Nat) (s : Int), Ev (fun k => spec_l3Values.l0 k xs (n : Int) (i : Int) l (p : Int) r) (ys, (q : Int), s) ∧ ys.length = n ∧ q ≤ l.length := by
  induction d with
  | zero =>
    intro i p r xs hi hp hx
    refine ⟨xs, p, r, Ev.step (fun _ => rfl) ?_, by omega, hp⟩
    simp only [spec_l3Values.l0]
    exact ev_neg (by omega) (ev_some rfl)
  | succ d ih =>
    intro i p r xs hi hp hx
    obtain ⟨v, q, s, e, hv, hq⟩ := l1Byte_is l hl p hp r
    obtain ⟨v2, q2, s2, e2, hq2⟩ := pick_at l hl q hq s [0, 1, 7, 8, 100, 5000, 1000000, (v : Int), 1000001, (-1)] (by simp) (by simp)
    obtain ⟨ys, q3, s3, h3, hy, hq3⟩ := ih (i + 1) q2 s2 (xs ++ [v2]) (by omega) hq2 (by simp; omega)
    refine ⟨ys, q3, s3, Ev.step (fun _ => rfl) ?_, hy, hq3⟩
    simp only [spec_l3Values.l0]
    refine ev_pos (by omega) (ev_bind0 e (ev_bind0 e2 (ev_pos (by omega) ?_)))
    rw [wsucc (by omega)]
    exact h3
theorem drawSketched_ev (l : List Int) (hl : l.length ≤ 281474976702464) : ∃ ys, Ev (fun k => spec_DrawSketched.f k l) ys ∧ ys.length ≤ 5 := by
  obtain ⟨s, h⟩ := l1New_ev l
  obtain ⟨n, q, s1, e1, hn, hq⟩ := l1Below_is l hl 0 (by omega) s 6 (by omega) (by omega)
  obtain ⟨ys, q3, s3, h3, hy, _⟩ := l3Values_at l hl n (by omega) n 0 q s1 [] (by omega) hq rfl
  refine ⟨ys, ?_, by omega⟩
  unfold spec_DrawSketched.f spec_l3Values.f
  exact Ev.bind h (Ev.bind (ev_bind0 e1 h3) (ev_some rfl))
theorem turned_at (all : List Int) (hl : all.length ≤ 1048576) (u : Su) (hu : u.Ok) (he : u = suOf all) : ∀ i : Nat, i ≤ all.length →
    Ev (fun k => laws_FnSketched.l0 k all true (all.drop i).reverse ((i : Int) - 1) u.c u.s u.mn u.mx u.h u.r [u.p, u.q] u.c u.s u.mn u.mx u.h u.r [u.p, u.q]) true := by
  intro i
  induction i with
  | zero =>
    intro hi
    refine Ev.step (fun _ => rfl) ?_
    simp only [laws_FnSketched.l0]
    have e : suOf all.reverse = u := by rw [he]; exact Su.of_reverse bkN mixN rankV rk17 all
    have h := impl_sketched_ev all.reverse (by simpa using hl)
    rw [e] at h
    refine ev_neg (by omega) (ev_pos (by trivial) (Ev.bind (impl_same_su hu) (ev_pos (by trivial) ?_)))
    rw [List.drop_zero]
    exact Ev.bind h (Ev.bind (impl_same_su hu) (ev_some rfl))
  | succ i ih =>
    intro hi
    have hil : i < all.length := by omega
    refine Ev.step (fun _ => rfl) ?_
    simp only [laws_FnSketched.l0]
    refine ev_pos (by omega) (ev_pos (by omega) (ev_pos (by omega) (ev_pos (by simp; omega) ?_)))
    have e1 : ((i + 1 : Nat) : Int) - 1 = (i : Int) := by omega
    rw [e1, rd_get hil, w64 (x := (i : Int) - 1) (by omega) (by omega)]
    have := ih (by omega)
    rw [List.drop_eq_getElem_cons hil, List.reverse_cons] at this
    exact this
theorem FnSketched : laws_FnSketched.Pure := by
  intro l hl
  refine (?_ : Ev (fun k => laws_FnSketched.f k l) true).rounds
  unfold laws_FnSketched.f laws_big.f
  simp only [Option.bind_some]
  by_cases hb : (l.length : Int) > 1048576
  · exact ev_pos (decide_eq_true hb) (ev_some rfl)
  refine ev_neg (by rw [decide_eq_false hb]; simp) ?_
  obtain ⟨xs, hx, lx⟩ := drawSketched_ev l (by omega)
  refine Ev.bind hx ?_
  obtain ⟨t, ht, htl⟩ : ∃ t, laws_tail.f l = some t ∧ t.length ≤ 281474976702464 := by
    unfold laws_tail.f
    by_cases h0 : (l.length : Int) = 0
    · exact ⟨l, by rw [if_pos h0], by omega⟩
    · exact ⟨l.drop 1, by rw [if_neg h0, if_pos (by omega)], by simp; omega⟩
  refine ev_bind0 ht ?_
  obtain ⟨ys, hy, ly⟩ := drawSketched_ev t htl
  refine Ev.bind hy ?_
  simp only [List.nil_append]
  have la : (xs ++ ys).length ≤ 1048576 := by simp; omega
  have ok := suOf_ok (xs ++ ys)
  refine ev_pos (by simp; omega) (ev_pos (by omega) (Ev.bind (impl_sketched_ev _ la) (Ev.bind (spec_sketched_ev _ la) (Ev.bind (impl_same_su ok) (ev_pos (by trivial) ?_)))))
  have ea := impl_sketchOk_ev (suOf (xs ++ ys)).c (suOf (xs ++ ys)).s (suOf (xs ++ ys)).mn (suOf (xs ++ ys)).mx (suOf (xs ++ ys)).h (suOf (xs ++ ys)).r [(suOf (xs ++ ys)).p, (suOf (xs ++ ys)).q]
  rw [skOk_true.2 (su_skOk ok)] at ea
  refine Ev.bind ea (Ev.step (fun _ => rfl) ?_)
  simp only [laws_FnSketched.j0]
  have em : Su.mrg (suOf xs) (suOf ys) = suOf (xs ++ ys) := (Su.of_append bkN mixN rankV rk17 xs ys).symm
  have hm := impl_merge_ev (suOf_ok xs) (suOf_ok ys)
  rw [em] at hm
  refine ev_neg (by simp) (Ev.bind (impl_sketched_ev xs (by omega)) (Ev.bind (impl_sketched_ev ys (by omega)) (Ev.bind hm ?_)))
  have := turned_at (xs ++ ys) la (suOf (xs ++ ys)) ok rfl (xs ++ ys).length (Nat.le_refl _)
  rw [List.drop_length, List.reverse_nil] at this
  rw [w64 (x := ((xs ++ ys).length : Int) - 1) (by omega) (by omega)]
  exact this

end Go.Proofs.YtkpicmjncfhnmaaDoor.Pure
