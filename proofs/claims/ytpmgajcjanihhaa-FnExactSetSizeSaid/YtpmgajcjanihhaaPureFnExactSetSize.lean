/- SetSize of the program is SetSize of the reference, for all arguments, and leaves its argument as it was. -/
import Derived.Test.YtpmgajcjanihhaaPFnExactSetSizex3
import Derived.Test.YtpmgajcjanihhaaAid
namespace Go.Proofs.Ytpmgajcjanihhaa.Pure
open Go.RowKit Go.Proofs.Ytpmgajcjanihhaa.PFnExactSetSize Go.Proofs.YtpmgajcjanihhaaW.PrintWords Go.Proofs.YtpmgajcjanihhaaW.PrintLast Go.Proofs.Ytpmgajcjanihhaa.Aid

theorem within_is (a b c : Int) : impl_within.f a b c = some (decide (b ≤ a ∧ a ≤ c)) := in_is a b c
theorem l1In_is (a b c : Int) : spec_l1In.f a b c = some (decide (b ≤ a ∧ a ≤ c)) := in_is a b c
theorem rdL_get {xs : List S65} {n : Nat} (h : n < xs.length) : rd_T65 xs (n : Int) = xs[n] := by
  unfold rd_T65
  rw [Int.toNat_natCast, List.getD_eq_getElem?_getD, List.getElem?_eq_getElem h]
  rfl
def cvSpan (x : S65) : S63 := ⟨x.f0, x.f1⟩
theorem toSpanS_at (x0 : List S65) (hn : x0.length ≤ 1048576) (d : Nat) : ∀ (i : Nat) (x3 : List S63), i + d = x0.length → x3.length = x0.length → x3.take i = (x0.map cvSpan).take i →
    Ev (fun k => laws_toSpanS.l0 k x0 x3 (i : Int)) (x0.map cvSpan) := by
  induction d with
  | zero =>
    intro i x3 hi hl ht
    refine Ev.step (fun _ => rfl) ?_
    simp only [laws_toSpanS.l0]
    exact ev_neg (by omega) (ev_some (take_all (by rw [hl, List.length_map]) (by rw [List.length_map]; omega) ht))
  | succ d ih =>
    intro i x3 hi hl ht
    refine Ev.step (fun _ => rfl) ?_
    simp only [laws_toSpanS.l0]
    refine ev_pos (by omega) (ev_pos (by omega) (ev_bind0 rfl (ev_pos (by omega) ?_)))
    rw [wsucc (by omega), rdL_get (show i < x0.length by omega), Int.toNat_natCast]
    have e : (⟨x0[i].f0, x0[i].f1⟩ : S63) = (x0.map cvSpan)[i]'(by rw [List.length_map]; omega) := by rw [List.getElem_map]; rfl
    rw [e]
    exact ih (i + 1) _ (by omega) (by rw [List.length_set]; exact hl) (take_set (ys := x0.map cvSpan) (by rw [hl, List.length_map]) (by rw [List.length_map]; omega) ht)
theorem toSpanS_ev (x0 : List S65) (hn : x0.length ≤ 1048576) : Ev (fun k => laws_toSpanS.f k x0) (x0.map cvSpan) := by
  unfold laws_toSpanS.f
  refine ev_pos (by omega) (ev_pos (by omega) ?_)
  exact toSpanS_at x0 hn x0.length 0 _ (by omega) (by simp) (by simp)
theorem szSpanS_is (l0 : List S65) (a : Int) (h0 : 0 ≤ a) (h1 : a ≤ 1048576) (hl : l0.length ≤ 9223372036854775807) : laws_szSpanS.f l0 a = some (if a < l0.length then -1 else a - l0.length) := by
  unfold laws_szSpanS.f
  rw [w64 (by omega) (by omega)]
  by_cases h : a < l0.length
  · rw [if_pos (by omega), if_pos h]
  · rw [if_neg (by omega), if_neg h]
theorem eqSpanS_at (x0 : List S63) (hn : x0.length ≤ 1048576) (d : Nat) : ∀ (i : Nat), i + d = x0.length →
    Ev (fun k => laws_eqSpanS.l0 k x0 x0 (i : Int)) true := by
  induction d with
  | zero =>
    intro i hi
    refine Ev.step (fun _ => rfl) ?_
    simp only [laws_eqSpanS.l0]
    exact ev_neg (by omega) (ev_some rfl)
  | succ d ih =>
    intro i hi
    refine Ev.step (fun _ => rfl) ?_
    simp only [laws_eqSpanS.l0]
    refine ev_pos (by omega) (ev_pos (by omega) (ev_pos (by omega) (ev_bind0 (a := true) (by unfold laws_eqSpan.f; rw [if_pos rfl, if_pos rfl]) (ev_pos (by trivial) ?_))))
    rw [wsucc (by omega)]
    exact ih (i + 1) (by omega)
theorem eqSpanS_ev (x0 : List S63) (hn : x0.length ≤ 1048576) : Ev (fun k => laws_eqSpanS.f k x0 x0) true := by
  unfold laws_eqSpanS.f
  exact ev_pos (by trivial) (eqSpanS_at x0 hn x0.length 0 (by omega))
/-- Span i of a set and those behind it are right, as both texts ask it. -/
def setOkFrom (s : List S63) : Nat → Nat → Bool
  | 0, _ => true
  | d + 1, i =>
    if 0 ≤ (rd_T63 s (i : Int)).f0 ∧ (rd_T63 s (i : Int)).f0 ≤ 9999 then
      if (rd_T63 s (i : Int)).f0 ≤ (rd_T63 s (i : Int)).f1 ∧ (rd_T63 s (i : Int)).f1 ≤ 9999 then
        if 0 < i then
          if (rd_T63 s (i : Int)).f0 ≤ wrap64 ((rd_T63 s ((i - 1 : Nat) : Int)).f1 + 1) then false else setOkFrom s d (i + 1)
        else setOkFrom s d (i + 1)
      else false
    else false
def setOk (s : List S63) : Bool := setOkFrom s s.length 0
theorem spec_setOk_at (s : List S63) (hn : s.length ≤ 1048576) (d : Nat) : ∀ i : Nat, i + d = s.length → Ev (fun k => spec_SetOk.l0 k s (i : Int)) (setOkFrom s d i) := by
  induction d with
  | zero =>
    intro i hi
    refine Ev.step (fun _ => rfl) ?_
    simp only [spec_SetOk.l0]
    exact ev_neg (by omega) (ev_some rfl)
  | succ d ih =>
    intro i hi
    refine Ev.step (fun _ => rfl) ?_
    simp only [spec_SetOk.l0]
    unfold setOkFrom
    rw [wsucc (by omega)]
    refine ev_pos (by omega) (ev_pos (by omega) (ev_bind0 (l1In_is _ _ _) ?_))
    by_cases h1 : 0 ≤ (rd_T63 s (i : Int)).f0 ∧ (rd_T63 s (i : Int)).f0 ≤ 9999
    · rw [if_pos h1]
      refine ev_pos (decide_eq_true h1) (ev_bind0 (l1In_is _ _ _) ?_)
      by_cases h2 : (rd_T63 s (i : Int)).f0 ≤ (rd_T63 s (i : Int)).f1 ∧ (rd_T63 s (i : Int)).f1 ≤ 9999
      · rw [if_pos h2]
        refine ev_pos (decide_eq_true h2) ?_
        by_cases h3 : 0 < i
        · rw [if_pos h3, wpred h3 (by omega)]
          refine ev_pos (by omega) (ev_pos (by omega) (ev_pos (by omega) ?_))
          by_cases h4 : (rd_T63 s (i : Int)).f0 ≤ wrap64 ((rd_T63 s ((i - 1 : Nat) : Int)).f1 + 1)
          · rw [if_pos h4]
            exact ev_pos h4 (ev_some rfl)
          · rw [if_neg h4]
            exact ev_neg h4 (ih (i + 1) (by omega))
        · rw [if_neg h3]
          exact ev_neg (by omega) (ih (i + 1) (by omega))
      · rw [if_neg h2]
        exact ev_neg (by rw [decide_eq_false h2]; exact Bool.false_ne_true) (ev_some rfl)
    · rw [if_neg h1]
      exact ev_neg (by rw [decide_eq_false h1]; exact Bool.false_ne_true) (ev_some rfl)
theorem spec_setOk_ev (s : List S63) (hn : s.length ≤ 1048576) : Ev (fun k => spec_SetOk.f k s) (setOk s) := spec_setOk_at s hn s.length 0 (by omega)
theorem impl_setOk_at (s : List S63) (hn : s.length ≤ 1048576) (d : Nat) : ∀ i : Nat, i + d = s.length → Ev (fun k => impl_SetOk.l0 k s s (s.length : Int) (i : Int)) (setOkFrom s d i) := by
  induction d with
  | zero =>
    intro i hi
    refine Ev.step (fun _ => rfl) ?_
    simp only [impl_SetOk.l0]
    exact ev_neg (by omega) (ev_some rfl)
  | succ d ih =>
    intro i hi
    refine Ev.step (fun _ => rfl) ?_
    simp only [impl_SetOk.l0]
    unfold setOkFrom
    rw [wsucc (by omega)]
    refine ev_pos (by omega) (ev_pos (by omega) (ev_pos (by omega) (ev_bind0 (within_is _ _ _) ?_)))
    by_cases h1 : 0 ≤ (rd_T63 s (i : Int)).f0 ∧ (rd_T63 s (i : Int)).f0 ≤ 9999
    · rw [if_pos h1]
      refine ev_pos (decide_eq_true h1) (ev_bind0 (within_is _ _ _) ?_)
      by_cases h2 : (rd_T63 s (i : Int)).f0 ≤ (rd_T63 s (i : Int)).f1 ∧ (rd_T63 s (i : Int)).f1 ≤ 9999
      · rw [if_pos h2]
        refine ev_pos (decide_eq_true h2) ?_
        by_cases h3 : 0 < i
        · rw [if_pos h3, wpred h3 (by omega)]
          refine ev_pos (by omega) (ev_pos (by omega) (ev_pos (by omega) ?_))
          by_cases h4 : (rd_T63 s (i : Int)).f0 ≤ wrap64 ((rd_T63 s ((i - 1 : Nat) : Int)).f1 + 1)
          · rw [if_pos h4]
            exact ev_pos h4 (ev_some rfl)
          · rw [if_neg h4]
            exact ev_neg h4 (ih (i + 1) (by omega))
        · rw [if_neg h3]
          exact ev_neg (by omega) (ih (i + 1) (by omega))
      · rw [if_neg h2]
        exact ev_neg (by rw [decide_eq_false h2]; exact Bool.false_ne_true) (ev_some rfl)
    · rw [if_neg h1]
      exact ev_neg (by rw [decide_eq_false h1]; exact Bool.false_ne_true) (ev_some rfl)
theorem impl_setOk_ev (s : List S63) (hn : s.length ≤ 1048576) : Ev (fun k => impl_SetOk.f k s) (setOk s) := impl_setOk_at s hn s.length 0 (by omega)
def sizeFrom (s : List S63) : Nat → Nat → Int → Int
  | 0, _, n => n
  | d + 1, i, n => sizeFrom s d (i + 1) (wrap64 (n + (rd_T63 s (i : Int)).f1 - (rd_T63 s (i : Int)).f0 + 1))
def setSize (s : List S63) : Int := if setOk s = true then sizeFrom s s.length 0 0 else 0
theorem spec_size_at (s : List S63) (hn : s.length ≤ 1048576) (d : Nat) : ∀ (i : Nat) (n : Int), i + d = s.length → Ev (fun k => spec_SetSize.l0 k s n (i : Int)) (sizeFrom s d i n) := by
  induction d with
  | zero =>
    intro i n hi
    refine Ev.step (fun _ => rfl) ?_
    simp only [spec_SetSize.l0]
    exact ev_neg (by omega) (ev_some rfl)
  | succ d ih =>
    intro i n hi
    refine Ev.step (fun _ => rfl) ?_
    simp only [spec_SetSize.l0]
    refine ev_pos (by omega) (ev_pos (by omega) ?_)
    rw [wsucc (by omega)]
    have e : wrap64 (wrap64 (wrap64 (n + (rd_T63 s (i : Int)).f1) - (rd_T63 s (i : Int)).f0) + 1) = wrap64 (n + (rd_T63 s (i : Int)).f1 - (rd_T63 s (i : Int)).f0 + 1) := by
      unfold wrap64
      omega
    rw [e]
    exact ih (i + 1) _ (by omega)
theorem impl_size_at (s : List S63) (hn : s.length ≤ 1048576) (d : Nat) : ∀ (i : Nat) (n : Int), i + d = s.length → Ev (fun k => impl_SetSize.l0 k n s (s.length : Int) (i : Int)) (sizeFrom s d i n) := by
  induction d with
  | zero =>
    intro i n hi
    refine Ev.step (fun _ => rfl) ?_
    simp only [impl_SetSize.l0]
    exact ev_neg (by omega) (ev_some rfl)
  | succ d ih =>
    intro i n hi
    refine Ev.step (fun _ => rfl) ?_
    simp only [impl_SetSize.l0]
    refine ev_pos (by omega) (ev_pos (by omega) (ev_pos (by omega) ?_))
    rw [wsucc (by omega)]
    have e : wrap64 (n + wrap64 (wrap64 ((rd_T63 s (i : Int)).f1 - (rd_T63 s (i : Int)).f0) + 1)) = wrap64 (n + (rd_T63 s (i : Int)).f1 - (rd_T63 s (i : Int)).f0 + 1) := by
      unfold wrap64
      omega
    rw [e]
    exact ih (i + 1) _ (by omega)
theorem spec_setSize_ev (s : List S63) (hn : s.length ≤ 1048576) : Ev (fun k => spec_SetSize.f k s) (setSize s) := by
  unfold spec_SetSize.f setSize
  refine Ev.bind (spec_setOk_ev s hn) ?_
  by_cases h : setOk s = true
  · rw [if_pos h]
    exact ev_pos h (spec_size_at s hn s.length 0 0 (by omega))
  · rw [if_neg h]
    exact ev_neg h (ev_some rfl)
theorem impl_setSize_ev (s : List S63) (hn : s.length ≤ 1048576) : Ev (fun k => impl_SetSize.f k s) (setSize s) := by
  unfold impl_SetSize.f setSize
  refine Ev.bind (impl_setOk_ev s hn) ?_
  by_cases h : setOk s = true
  · rw [if_pos h]
    exact ev_pos h (impl_size_at s hn s.length 0 0 (by omega))
  · rw [if_neg h]
    exact ev_neg h (ev_some rfl)
theorem FnExactSetSize : laws_FnExactSetSize.Pure := by
  intro l h
  refine (?_ : Ev (fun k => laws_FnExactSetSize.f k l) true).rounds
  unfold laws_FnExactSetSize.f
  refine ev_bind0 (szSpanS_is l 1048576 (by omega) (by omega) h.1) ?_
  by_cases hl : (1048576 : Int) < l.length
  · rw [if_pos hl]
    exact ev_pos (by omega) (ev_some rfl)
  · rw [if_neg hl]
    have hn : l.length ≤ 1048576 := by omega
    have hm : (l.map cvSpan).length ≤ 1048576 := by rw [List.length_map]; exact hn
    refine ev_neg (by omega) (Ev.bind (toSpanS_ev l hn) (Ev.bind (spec_setSize_ev _ hm) (Ev.bind (toSpanS_ev l hn) (Ev.bind (impl_setSize_ev _ hm) (ev_pos (by trivial) ?_)))))
    exact Ev.bind (toSpanS_ev l hn) (Ev.bind (eqSpanS_ev _ hm) (ev_pos (by trivial) (ev_some rfl)))

end Go.Proofs.Ytpmgajcjanihhaa.Pure
