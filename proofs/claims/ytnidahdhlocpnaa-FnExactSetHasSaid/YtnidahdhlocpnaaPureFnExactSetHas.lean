/- SetHas of the program is SetHas of the reference, for all arguments, and leaves its arguments as they were. -/
import Derived.Test.YtnidahdhlocpnaaPFnExactSetHasx1
import Derived.Test.YtnidahdhlocpnaaAid
namespace Go.Proofs.Ytnidahdhlocpnaa.Pure
open Go.RowKit Go.Proofs.Ytnidahdhlocpnaa.PFnExactSetHas Go.Proofs.YtnidahdhlocpnaaW.PrintWords Go.Proofs.YtnidahdhlocpnaaW.PrintLast Go.Proofs.Ytnidahdhlocpnaa.Aid

theorem l1In_is (a b c : Int) : spec_l1In.f a b c = some (decide (b ≤ a ∧ a ≤ c)) := in_is a b c
theorem rdI_get {xs : List S77} {n : Nat} (h : n < xs.length) : rd_T77 xs (n : Int) = xs[n] := by
  unfold rd_T77
  rw [Int.toNat_natCast, List.getD_eq_getElem?_getD, List.getElem?_eq_getElem h]
  rfl
theorem rdL_get {xs : List S79} {n : Nat} (h : n < xs.length) : rd_T79 xs (n : Int) = xs[n] := by
  unfold rd_T79
  rw [Int.toNat_natCast, List.getD_eq_getElem?_getD, List.getElem?_eq_getElem h]
  rfl
def cvSpan (x : S79) : S77 := ⟨x.f0, x.f1⟩
theorem toSpanS_at (x0 : List S79) (hn : x0.length ≤ 1048576) (d : Nat) : ∀ (i : Nat) (x3 : List S77), i + d = x0.length → x3.length = x0.length → x3.take i = (x0.map cvSpan).take i →
    Ev (fun k => laws_toSpanS.l0 k x0 x3 (i : Int)) (x0.map cvSpan) := by
  induction d with
  | zero =>
    intro i x3 hi hl ht
    refine Ev.step (fun _ => rfl) ?_
    simp only [laws_toSpanS.l0]
    exact ev_neg (by omega) (ev_some (take_all (by rw [hl, List.length_map]) (by rw [List.length_map]; omega) ht))
  | succ d ih =>
    intro i x3 hi hl ht
    refine Ev.step (fun _ => rfl) ?_
    simp only [laws_toSpanS.l0]
    refine ev_pos (by omega) (ev_pos (by omega) (ev_bind0 rfl (ev_pos (by omega) ?_)))
    rw [wsucc (by omega), rdL_get (show i < x0.length by omega), Int.toNat_natCast]
    have e : (⟨x0[i].f0, x0[i].f1⟩ : S77) = (x0.map cvSpan)[i]'(by rw [List.length_map]; omega) := by rw [List.getElem_map]; rfl
    rw [e]
    exact ih (i + 1) _ (by omega) (by rw [List.length_set]; exact hl) (take_set (ys := x0.map cvSpan) (by rw [hl, List.length_map]) (by rw [List.length_map]; omega) ht)
theorem toSpanS_ev (x0 : List S79) (hn : x0.length ≤ 1048576) : Ev (fun k => laws_toSpanS.f k x0) (x0.map cvSpan) := by
  unfold laws_toSpanS.f
  refine ev_pos (by omega) (ev_pos (by omega) ?_)
  exact toSpanS_at x0 hn x0.length 0 _ (by omega) (by simp) (by simp)
theorem szSpanS_is (l0 : List S79) (a : Int) (h0 : 0 ≤ a) (h1 : a ≤ 1048576) (hl : l0.length ≤ 9223372036854775807) : laws_szSpanS.f l0 a = some (if a < l0.length then -1 else a - l0.length) := by
  unfold laws_szSpanS.f
  rw [w64 (by omega) (by omega)]
  by_cases h : a < l0.length
  · rw [if_pos (by omega), if_pos h]
  · rw [if_neg (by omega), if_neg h]
theorem eqSpanS_at (x0 : List S77) (hn : x0.length ≤ 1048576) (d : Nat) : ∀ (i : Nat), i + d = x0.length →
    Ev (fun k => laws_eqSpanS.l0 k x0 x0 (i : Int)) true := by
  induction d with
  | zero =>
    intro i hi
    refine Ev.step (fun _ => rfl) ?_
    simp only [laws_eqSpanS.l0]
    exact ev_neg (by omega) (ev_some rfl)
  | succ d ih =>
    intro i hi
    refine Ev.step (fun _ => rfl) ?_
    simp only [laws_eqSpanS.l0]
    refine ev_pos (by omega) (ev_pos (by omega) (ev_pos (by omega) (ev_bind0 (a := true) (by unfold laws_eqSpan.f; rw [if_pos rfl, if_pos rfl]) (ev_pos (by trivial) ?_))))
    rw [wsucc (by omega)]
    exact ih (i + 1) (by omega)
theorem eqSpanS_ev (x0 : List S77) (hn : x0.length ≤ 1048576) : Ev (fun k => laws_eqSpanS.f k x0 x0) true := by
  unfold laws_eqSpanS.f
  exact ev_pos (by trivial) (eqSpanS_at x0 hn x0.length 0 (by omega))
theorem spec_setHas_at (s : List S77) (n : Int) (hn : s.length ≤ 1048576) (d : Nat) : ∀ (i : Nat), i + d = s.length →
    Ev (fun k => spec_SetHas.l0 k s n (i : Int)) ((s.drop i).any (impl_SetHas.has n)) := by
  induction d with
  | zero =>
    intro i hi
    refine Ev.step (fun _ => rfl) ?_
    simp only [spec_SetHas.l0]
    exact ev_neg (by omega) (ev_some (by rw [List.drop_eq_nil_of_le (by omega)]; rfl))
  | succ d ih =>
    intro i hi
    refine Ev.step (fun _ => rfl) ?_
    simp only [spec_SetHas.l0]
    rw [List.drop_eq_getElem_cons (show i < s.length by omega), List.any_cons, wsucc (by omega), rdI_get (show i < s.length by omega)]
    refine ev_pos (by omega) (ev_pos (by omega) (ev_bind0 (l1In_is _ _ _) ?_))
    have e : impl_SetHas.has n (s[i]'(by omega)) = decide ((s[i]'(by omega)).f0 ≤ n ∧ n ≤ (s[i]'(by omega)).f1) := by
      unfold impl_SetHas.has
      rw [Bool.decide_and]
    rw [e]
    by_cases h : (s[i]'(by omega)).f0 ≤ n ∧ n ≤ (s[i]'(by omega)).f1
    · rw [decide_eq_true h, Bool.true_or]
      exact ev_pos rfl (ev_some rfl)
    · rw [decide_eq_false h, Bool.false_or]
      exact ev_neg (by decide) (ih (i + 1) (by omega))
theorem spec_setHas_ev (s : List S77) (n : Int) (hn : s.length ≤ 1048576) : Ev (fun k => spec_SetHas.f k s n) (s.any (impl_SetHas.has n)) := spec_setHas_at s n hn s.length 0 (by omega)
theorem FnExactSetHas : laws_FnExactSetHas.Pure := by
  intro l n h _
  refine (?_ : Ev (fun k => laws_FnExactSetHas.f k l n) true).rounds
  unfold laws_FnExactSetHas.f
  refine ev_bind0 (szSpanS_is l 1048576 (by omega) (by omega) h.1) ?_
  by_cases hl : (1048576 : Int) < l.length
  · rw [if_pos hl]
    exact ev_pos (by omega) (ev_some rfl)
  rw [if_neg hl]
  have hn : l.length ≤ 1048576 := by omega
  have hm : (l.map cvSpan).length ≤ 1048576 := by rw [List.length_map]; exact hn
  refine ev_neg (by omega) (Ev.bind (toSpanS_ev l hn) (Ev.bind (spec_setHas_ev _ n hm) (Ev.bind (toSpanS_ev l hn) (ev_bind0 rfl (ev_neg (by simp) ?_)))))
  exact Ev.bind (toSpanS_ev l hn) (Ev.bind (eqSpanS_ev _ hm) (ev_pos (by trivial) (ev_some rfl)))

end Go.Proofs.Ytnidahdhlocpnaa.Pure
