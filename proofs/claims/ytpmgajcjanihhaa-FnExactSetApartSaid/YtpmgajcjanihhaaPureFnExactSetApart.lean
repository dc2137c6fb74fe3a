/- SetApart of the program is SetApart of the reference, for all arguments, and leaves its arguments as they were. -/
import Derived.Test.YtpmgajcjanihhaaPFnExactSetApartx4
import Derived.Test.YtpmgajcjanihhaaAid
namespace Go.Proofs.Ytpmgajcjanihhaa.Pure
open Go.RowKit Go.Proofs.Ytpmgajcjanihhaa.PFnExactSetApart Go.Proofs.YtpmgajcjanihhaaW.PrintWords Go.Proofs.YtpmgajcjanihhaaW.PrintLast Go.Proofs.Ytpmgajcjanihhaa.Aid

theorem within_is (a b c : Int) : impl_within.f a b c = some (decide (b ≤ a ∧ a ≤ c)) := in_is a b c
theorem l1In_is (a b c : Int) : spec_l1In.f a b c = some (decide (b ≤ a ∧ a ≤ c)) := in_is a b c
theorem rdL_get {xs : List S65} {n : Nat} (h : n < xs.length) : rd_T65 xs (n : Int) = xs[n] := by
  unfold rd_T65
  rw [Int.toNat_natCast, List.getD_eq_getElem?_getD, List.getElem?_eq_getElem h]
  rfl
def cvSpan (x : S65) : S63 := ⟨x.f0, x.f1⟩
theorem toSpanS_at (x0 : List S65) (hn : x0.length ≤ 1048576) (d : Nat) : ∀ (i : Nat) (x3 : List S63), i + d = x0.length → x3.length = x0.length → x3.take i = (x0.map cvSpan).take i →
    Ev (fun k => laws_toSpanS.l0 k x0 x3 (i : Int)) (x0.map cvSpan) := by
  induction d with
  | zero =>
    intro i x3 hi hl ht
    refine Ev.step (fun _ => rfl) ?_
    simp only [laws_toSpanS.l0]
    exact ev_neg (by omega) (ev_some (take_all (by rw [hl, List.length_map]) (by rw [List.length_map]; omega) ht))
  | succ d ih =>
    intro i x3 hi hl ht
    refine Ev.step (fun _ => rfl) ?_
    simp only [laws_toSpanS.l0]
    refine ev_pos (by omega) (ev_pos (by omega) (ev_bind0 rfl (ev_pos (by omega) ?_)))
    rw [wsucc (by omega), rdL_get (show i < x0.length by omega), Int.toNat_natCast]
    have e : (⟨x0[i].f0, x0[i].f1⟩ : S63) = (x0.map cvSpan)[i]'(by rw [List.length_map]; omega) := by rw [List.getElem_map]; rfl
    rw [e]
    exact ih (i + 1) _ (by omega) (by rw [List.length_set]; exact hl) (take_set (ys := x0.map cvSpan) (by rw [hl, List.length_map]) (by rw [List.length_map]; omega) ht)
theorem toSpanS_ev (x0 : List S65) (hn : x0.length ≤ 1048576) : Ev (fun k => laws_toSpanS.f k x0) (x0.map cvSpan) := by
  unfold laws_toSpanS.f
  refine ev_pos (by omega) (ev_pos (by omega) ?_)
  exact toSpanS_at x0 hn x0.length 0 _ (by omega) (by simp) (by simp)
theorem szSpanS_is (l0 : List S65) (a : Int) (h0 : 0 ≤ a) (h1 : a ≤ 1048576) (hl : l0.length ≤ 9223372036854775807) : laws_szSpanS.f l0 a = some (if a < l0.length then -1 else a - l0.length) := by
  unfold laws_szSpanS.f
  rw [w64 (by omega) (by omega)]
  by_cases h : a < l0.length
  · rw [if_pos (by omega), if_pos h]
  · rw [if_neg (by omega), if_neg h]
theorem eqSpanS_at (x0 : List S63) (hn : x0.length ≤ 1048576) (d : Nat) : ∀ (i : Nat), i + d = x0.length →
    Ev (fun k => laws_eqSpanS.l0 k x0 x0 (i : Int)) true := by
  induction d with
  | zero =>
    intro i hi
    refine Ev.step (fun _ => rfl) ?_
    simp only [laws_eqSpanS.l0]
    exact ev_neg (by omega) (ev_some rfl)
  | succ d ih =>
    intro i hi
    refine Ev.step (fun _ => rfl) ?_
    simp only [laws_eqSpanS.l0]
    refine ev_pos (by omega) (ev_pos (by omega) (ev_pos (by omega) (ev_bind0 (a := true) (by unfold laws_eqSpan.f; rw [if_pos rfl, if_pos rfl]) (ev_pos (by trivial) ?_))))
    rw [wsucc (by omega)]
    exact ih (i + 1) (by omega)
theorem eqSpanS_ev (x0 : List S63) (hn : x0.length ≤ 1048576) : Ev (fun k => laws_eqSpanS.f k x0 x0) true := by
  unfold laws_eqSpanS.f
  exact ev_pos (by trivial) (eqSpanS_at x0 hn x0.length 0 (by omega))
/-- Span i of a set and those behind it are right, as both texts ask it. -/
def setOkFrom (s : List S63) : Nat → Nat → Bool
  | 0, _ => true
  | d + 1, i =>
    if 0 ≤ (rd_T63 s (i : Int)).f0 ∧ (rd_T63 s (i : Int)).f0 ≤ 9999 then
      if (rd_T63 s (i : Int)).f0 ≤ (rd_T63 s (i : Int)).f1 ∧ (rd_T63 s (i : Int)).f1 ≤ 9999 then
        if 0 < i then
          if (rd_T63 s (i : Int)).f0 ≤ wrap64 ((rd_T63 s ((i - 1 : Nat) : Int)).f1 + 1) then false else setOkFrom s d (i + 1)
        else setOkFrom s d (i + 1)
      else false
    else false
def setOk (s : List S63) : Bool := setOkFrom s s.length 0
theorem spec_setOk_at (s : List S63) (hn : s.length ≤ 1048576) (d : Nat) : ∀ i : Nat, i + d = s.length → Ev (fun k => spec_SetOk.l0 k s (i : Int)) (setOkFrom s d i) := by
  induction d with
  | zero =>
    intro i hi
    refine Ev.step (fun _ => rfl) ?_
    simp only [spec_SetOk.l0]
    exact ev_neg (by omega) (ev_some rfl)
  | succ d ih =>
    intro i hi
    refine Ev.step (fun _ => rfl) ?_
    simp only [spec_SetOk.l0]
    unfold setOkFrom
    rw [wsucc (by omega)]
    refine ev_pos (by omega) (ev_pos (by omega) (ev_bind0 (l1In_is _ _ _) ?_))
    by_cases h1 : 0 ≤ (rd_T63 s (i : Int)).f0 ∧ (rd_T63 s (i : Int)).f0 ≤ 9999
    · rw [if_pos h1]
      refine ev_pos (decide_eq_true h1) (ev_bind0 (l1In_is _ _ _) ?_)
      by_cases h2 : (rd_T63 s (i : Int)).f0 ≤ (rd_T63 s (i : Int)).f1 ∧ (rd_T63 s (i : Int)).f1 ≤ 9999
      · rw [if_pos h2]
        refine ev_pos (decide_eq_true h2) ?_
        by_cases h3 : 0 < i
        · rw [if_pos h3, wpred h3 (by omega)]
          refine ev_pos (by omega) (ev_pos (by omega) (ev_pos (by omega) ?_))
          by_cases h4 : (rd_T63 s (i : Int)).f0 ≤ wrap64 ((rd_T63 s ((i - 1 : Nat) : Int)).f1 + 1)
          · rw [if_pos h4]
            exact ev_pos h4 (ev_some rfl)
          · rw [if_neg h4]
            exact ev_neg h4 (ih (i + 1) (by omega))
        · rw [if_neg h3]
          exact ev_neg (by omega) (ih (i + 1) (by omega))
      · rw [if_neg h2]
        exact ev_neg (by rw [decide_eq_false h2]; exact Bool.false_ne_true) (ev_some rfl)
    · rw [if_neg h1]
      exact ev_neg (by rw [decide_eq_false h1]; exact Bool.false_ne_true) (ev_some rfl)
theorem spec_setOk_ev (s : List S63) (hn : s.length ≤ 1048576) : Ev (fun k => spec_SetOk.f k s) (setOk s) := spec_setOk_at s hn s.length 0 (by omega)
theorem impl_setOk_at (s : List S63) (hn : s.length ≤ 1048576) (d : Nat) : ∀ i : Nat, i + d = s.length → Ev (fun k => impl_SetOk.l0 k s s (s.length : Int) (i : Int)) (setOkFrom s d i) := by
  induction d with
  | zero =>
    intro i hi
    refine Ev.step (fun _ => rfl) ?_
    simp only [impl_SetOk.l0]
    exact ev_neg (by omega) (ev_some rfl)
  | succ d ih =>
    intro i hi
    refine Ev.step (fun _ => rfl) ?_
    simp only [impl_SetOk.l0]
    unfold setOkFrom
    rw [wsucc (by omega)]
    refine ev_pos (by omega) (ev_pos (by omega) (ev_pos (by omega) (ev_bind0 (within_is _ _ _) ?_)))
    by_cases h1 : 0 ≤ (rd_T63 s (i : Int)).f0 ∧ (rd_T63 s (i : Int)).f0 ≤ 9999
    · rw [if_pos h1]
      refine ev_pos (decide_eq_true h1) (ev_bind0 (within_is _ _ _) ?_)
      by_cases h2 : (rd_T63 s (i : Int)).f0 ≤ (rd_T63 s (i : Int)).f1 ∧ (rd_T63 s (i : Int)).f1 ≤ 9999
      · rw [if_pos h2]
        refine ev_pos (decide_eq_true h2) ?_
        by_cases h3 : 0 < i
        · rw [if_pos h3, wpred h3 (by omega)]
          refine ev_pos (by omega) (ev_pos (by omega) (ev_pos (by omega) ?_))
          by_cases h4 : (rd_T63 s (i : Int)).f0 ≤ wrap64 ((rd_T63 s ((i - 1 : Nat) : Int)).f1 + 1)
          · rw [if_pos h4]
            exact ev_pos h4 (ev_some rfl)
          · rw [if_neg h4]
            exact ev_neg h4 (ih (i + 1) (by omega))
        · rw [if_neg h3]
          exact ev_neg (by omega) (ih (i + 1) (by omega))
      · rw [if_neg h2]
        exact ev_neg (by rw [decide_eq_false h2]; exact Bool.false_ne_true) (ev_some rfl)
    · rw [if_neg h1]
      exact ev_neg (by rw [decide_eq_false h1]; exact Bool.false_ne_true) (ev_some rfl)
theorem impl_setOk_ev (s : List S63) (hn : s.length ≤ 1048576) : Ev (fun k => impl_SetOk.f k s) (setOk s) := impl_setOk_at s hn s.length 0 (by omega)
/-- Span x and those of b from j on have no number in common. -/
def apart1 (x : S63) (b : List S63) : Nat → Nat → Bool
  | 0, _ => true
  | d + 1, j =>
    if x.f0 ≤ (rd_T63 b (j : Int)).f1 then
      if (rd_T63 b (j : Int)).f0 ≤ x.f1 then false else apart1 x b d (j + 1)
    else apart1 x b d (j + 1)
def apartFrom (a b : List S63) : Nat → Nat → Bool
  | 0, _ => true
  | d + 1, i => apart1 (rd_T63 a (i : Int)) b b.length 0 && apartFrom a b d (i + 1)
def setApart (a b : List S63) : Bool := setOk a && setOk b && apartFrom a b a.length 0
theorem spec_apart1_at (a b : List S63) (ha : a.length ≤ 1048576) (hb : b.length ≤ 1048576) (i : Nat) (hi : i < a.length) (r : Bool) (d : Nat) : ∀ j : Nat, j + d = b.length →
    (apart1 (rd_T63 a (i : Int)) b d j = true → Ev (fun k => spec_SetApart.l0 k a b ((i + 1 : Nat) : Int)) r) → (apart1 (rd_T63 a (i : Int)) b d j = false → r = false) → Ev (fun k => spec_SetApart.l1 k a b (i : Int) (j : Int)) r := by
  induction d with
  | zero =>
    intro j hj h1 _
    refine Ev.step (fun _ => rfl) ?_
    simp only [spec_SetApart.l1]
    refine ev_neg (by omega) ?_
    rw [wsucc (by omega)]
    exact h1 rfl
  | succ d ih =>
    intro j hj h1 h2
    refine Ev.step (fun _ => rfl) ?_
    simp only [spec_SetApart.l1]
    rw [wsucc (by omega)]
    unfold apart1 at h1 h2
    refine ev_pos (by omega) (ev_pos (by omega) (ev_pos (by omega) (ev_pos (by omega) ?_)))
    by_cases c : (rd_T63 a (i : Int)).f0 ≤ (rd_T63 b (j : Int)).f1
    · rw [if_pos c] at h1 h2
      refine ev_pos c ?_
      by_cases e : (rd_T63 b (j : Int)).f0 ≤ (rd_T63 a (i : Int)).f1
      · rw [if_pos e] at h1 h2
        exact ev_pos e (ev_some (h2 rfl).symm)
      · rw [if_neg e] at h1 h2
        exact ev_neg e (ih (j + 1) (by omega) h1 h2)
    · rw [if_neg c] at h1 h2
      exact ev_neg c (ih (j + 1) (by omega) h1 h2)
theorem spec_apart_at (a b : List S63) (ha : a.length ≤ 1048576) (hb : b.length ≤ 1048576) (d : Nat) : ∀ i : Nat, i + d = a.length → Ev (fun k => spec_SetApart.l0 k a b (i : Int)) (apartFrom a b d i) := by
  induction d with
  | zero =>
    intro i hi
    refine Ev.step (fun _ => rfl) ?_
    simp only [spec_SetApart.l0]
    exact ev_neg (by omega) (ev_some rfl)
  | succ d ih =>
    intro i hi
    refine Ev.step (fun _ => rfl) ?_
    simp only [spec_SetApart.l0]
    refine ev_pos (by omega) ?_
    unfold apartFrom
    refine spec_apart1_at a b ha hb i (by omega) _ b.length 0 (by omega) (fun h => ?_) (fun h => ?_)
    · rw [h, Bool.true_and]
      exact ih (i + 1) (by omega)
    · rw [h, Bool.false_and]
theorem impl_apart1_at (a b : List S63) (ha : a.length ≤ 1048576) (hb : b.length ≤ 1048576) (i : Nat) (hi : i < a.length) (r : Bool) (d : Nat) : ∀ j : Nat, j + d = b.length →
    (apart1 (rd_T63 a (i : Int)) b d j = true → Ev (fun k => impl_SetApart.l0 k b a (a.length : Int) ((i + 1 : Nat) : Int)) r) → (apart1 (rd_T63 a (i : Int)) b d j = false → r = false) →
    Ev (fun k => impl_SetApart.l1 k b a (a.length : Int) (i : Int) b (b.length : Int) (j : Int) (rd_T63 a (i : Int)).f0 (rd_T63 a (i : Int)).f1) r := by
  induction d with
  | zero =>
    intro j hj h1 _
    refine Ev.step (fun _ => rfl) ?_
    simp only [impl_SetApart.l1]
    refine ev_neg (by omega) ?_
    rw [wsucc (by omega)]
    exact h1 rfl
  | succ d ih =>
    intro j hj h1 h2
    refine Ev.step (fun _ => rfl) ?_
    simp only [impl_SetApart.l1]
    rw [wsucc (by omega)]
    unfold apart1 at h1 h2
    refine ev_pos (by omega) (ev_pos (by omega) (ev_pos (by omega) ?_))
    by_cases c : (rd_T63 a (i : Int)).f0 ≤ (rd_T63 b (j : Int)).f1
    · rw [if_pos c] at h1 h2
      refine ev_pos c ?_
      by_cases e : (rd_T63 b (j : Int)).f0 ≤ (rd_T63 a (i : Int)).f1
      · rw [if_pos e] at h1 h2
        exact ev_pos e (ev_some (h2 rfl).symm)
      · rw [if_neg e] at h1 h2
        exact ev_neg e (ih (j + 1) (by omega) h1 h2)
    · rw [if_neg c] at h1 h2
      exact ev_neg c (ih (j + 1) (by omega) h1 h2)
theorem impl_apart_at (a b : List S63) (ha : a.length ≤ 1048576) (hb : b.length ≤ 1048576) (d : Nat) : ∀ i : Nat, i + d = a.length → Ev (fun k => impl_SetApart.l0 k b a (a.length : Int) (i : Int)) (apartFrom a b d i) := by
  induction d with
  | zero =>
    intro i hi
    refine Ev.step (fun _ => rfl) ?_
    simp only [impl_SetApart.l0]
    exact ev_neg (by omega) (ev_some rfl)
  | succ d ih =>
    intro i hi
    refine Ev.step (fun _ => rfl) ?_
    simp only [impl_SetApart.l0]
    refine ev_pos (by omega) (ev_pos (by omega) (ev_pos (by omega) ?_))
    unfold apartFrom
    refine impl_apart1_at a b ha hb i (by omega) _ b.length 0 (by omega) (fun h => ?_) (fun h => ?_)
    · rw [h, Bool.true_and]
      exact ih (i + 1) (by omega)
    · rw [h, Bool.false_and]
theorem spec_setApart_ev (a b : List S63) (ha : a.length ≤ 1048576) (hb : b.length ≤ 1048576) : Ev (fun k => spec_SetApart.f k a b) (setApart a b) := by
  unfold spec_SetApart.f setApart
  refine Ev.bind (spec_setOk_ev a ha) ?_
  cases h : setOk a with
  | false =>
    refine ev_neg (by simp) (Ev.step (fun _ => rfl) ?_)
    simp only [spec_SetApart.j0]
    exact ev_pos (by trivial) (ev_some rfl)
  | true =>
    refine ev_pos rfl (Ev.bind (spec_setOk_ev b hb) (Ev.step (fun _ => rfl) ?_))
    simp only [spec_SetApart.j0]
    cases h2 : setOk b with
    | false => exact ev_pos (by trivial) (ev_some rfl)
    | true => exact ev_neg (by simp) (spec_apart_at a b ha hb a.length 0 (by omega))
theorem impl_setApart_ev (a b : List S63) (ha : a.length ≤ 1048576) (hb : b.length ≤ 1048576) : Ev (fun k => impl_SetApart.f k a b) (setApart a b) := by
  unfold impl_SetApart.f setApart
  refine Ev.bind (impl_setOk_ev a ha) ?_
  cases h : setOk a with
  | false =>
    refine ev_neg (by simp) (Ev.step (fun _ => rfl) ?_)
    simp only [impl_SetApart.j0]
    exact ev_pos (by trivial) (ev_some rfl)
  | true =>
    refine ev_pos rfl (Ev.bind (impl_setOk_ev b hb) (Ev.step (fun _ => rfl) ?_))
    simp only [impl_SetApart.j0]
    cases h2 : setOk b with
    | false => exact ev_pos (by trivial) (ev_some rfl)
    | true => exact ev_neg (by simp) (impl_apart_at a b ha hb a.length 0 (by omega))
theorem FnExactSetApart : laws_FnExactSetApart.Pure := by
  intro l m h hh
  refine (?_ : Ev (fun k => laws_FnExactSetApart.f k l m) true).rounds
  unfold laws_FnExactSetApart.f
  refine ev_bind0 (szSpanS_is l 1048576 (by omega) (by omega) h.1) ?_
  by_cases hl : (1048576 : Int) < l.length
  · rw [if_pos hl]
    exact ev_pos (by omega) (ev_some rfl)
  rw [if_neg hl]
  refine ev_neg (by omega) (ev_bind0 (szSpanS_is m _ (by omega) (by omega) hh.1) ?_)
  by_cases hl2 : (1048576 : Int) - l.length < m.length
  · rw [if_pos hl2]
    exact ev_pos (by omega) (ev_some rfl)
  rw [if_neg hl2]
  have hn : l.length ≤ 1048576 := by omega
  have hm : (l.map cvSpan).length ≤ 1048576 := by rw [List.length_map]; exact hn
  have hn2 : m.length ≤ 1048576 := by omega
  have hm2 : (m.map cvSpan).length ≤ 1048576 := by rw [List.length_map]; exact hn2
  refine ev_neg (by omega) (Ev.bind (toSpanS_ev l hn) (Ev.bind (toSpanS_ev m hn2) (Ev.bind (spec_setApart_ev _ _ hm hm2) (Ev.bind (toSpanS_ev l hn) (Ev.bind (toSpanS_ev m hn2) (Ev.bind (impl_setApart_ev _ _ hm hm2) (ev_neg (by simp) ?_)))))))
  refine Ev.bind (toSpanS_ev l hn) (Ev.bind (eqSpanS_ev _ hm) (ev_pos (by trivial) ?_))
  exact Ev.bind (toSpanS_ev m hn2) (Ev.bind (eqSpanS_ev _ hm2) (ev_pos (by trivial) (ev_some rfl)))

end Go.Proofs.Ytpmgajcjanihhaa.Pure
