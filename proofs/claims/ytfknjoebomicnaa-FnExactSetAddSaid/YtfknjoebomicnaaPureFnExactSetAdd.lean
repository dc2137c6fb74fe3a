/- SetAdd of the program is SetAdd of the reference, for all arguments; it leaves its arguments as they were, and what it hands back is memory of its own. -/
import Derived.Test.YtfknjoebomicnaaPFnExactSetAddx6
import Derived.Test.YtfknjoebomicnaaAid
namespace Go.Proofs.Ytfknjoebomicnaa.Pure
open Go.RowKit Go.Proofs.Ytfknjoebomicnaa.PFnExactSetAdd Go.Proofs.YtfknjoebomicnaaW.PrintWords Go.Proofs.YtfknjoebomicnaaW.PrintLast Go.Proofs.Ytfknjoebomicnaa.Aid

theorem within_is (a b c : Int) : impl_within.f a b c = some (decide (b ≤ a ∧ a ≤ c)) := in_is a b c
theorem l1In_is (a b c : Int) : spec_l1In.f a b c = some (decide (b ≤ a ∧ a ≤ c)) := in_is a b c
theorem rdI_get {xs : List S77} {n : Nat} (h : n < xs.length) : rd_T77 xs (n : Int) = xs[n] := by
  unfold rd_T77
  rw [Int.toNat_natCast, List.getD_eq_getElem?_getD, List.getElem?_eq_getElem h]
  rfl
theorem rdL_get {xs : List S79} {n : Nat} (h : n < xs.length) : rd_T79 xs (n : Int) = xs[n] := by
  unfold rd_T79
  rw [Int.toNat_natCast, List.getD_eq_getElem?_getD, List.getElem?_eq_getElem h]
  rfl
def cvSpan (x : S79) : S77 := ⟨x.f0, x.f1⟩
theorem toSpanS_at (x0 : List S79) (hn : x0.length ≤ 1048576) (d : Nat) : ∀ (i : Nat) (x3 : List S77), i + d = x0.length → x3.length = x0.length → x3.take i = (x0.map cvSpan).take i →
    Ev (fun k => laws_toSpanS.l0 k x0 x3 (i : Int)) (x0.map cvSpan) := by
  induction d with
  | zero =>
    intro i x3 hi hl ht
    refine Ev.step (fun _ => rfl) ?_
    simp only [laws_toSpanS.l0]
    exact ev_neg (by omega) (ev_some (take_all (by rw [hl, List.length_map]) (by rw [List.length_map]; omega) ht))
  | succ d ih =>
    intro i x3 hi hl ht
    refine Ev.step (fun _ => rfl) ?_
    simp only [laws_toSpanS.l0]
    refine ev_pos (by omega) (ev_pos (by omega) (ev_bind0 rfl (ev_pos (by omega) ?_)))
    rw [wsucc (by omega), rdL_get (show i < x0.length by omega), Int.toNat_natCast]
    have e : (⟨x0[i].f0, x0[i].f1⟩ : S77) = (x0.map cvSpan)[i]'(by rw [List.length_map]; omega) := by rw [List.getElem_map]; rfl
    rw [e]
    exact ih (i + 1) _ (by omega) (by rw [List.length_set]; exact hl) (take_set (ys := x0.map cvSpan) (by rw [hl, List.length_map]) (by rw [List.length_map]; omega) ht)
theorem toSpanS_ev (x0 : List S79) (hn : x0.length ≤ 1048576) : Ev (fun k => laws_toSpanS.f k x0) (x0.map cvSpan) := by
  unfold laws_toSpanS.f
  refine ev_pos (by omega) (ev_pos (by omega) ?_)
  exact toSpanS_at x0 hn x0.length 0 _ (by omega) (by simp) (by simp)
theorem szSpanS_is (l0 : List S79) (a : Int) (h0 : 0 ≤ a) (h1 : a ≤ 1048576) (hl : l0.length ≤ 9223372036854775807) : laws_szSpanS.f l0 a = some (if a < l0.length then -1 else a - l0.length) := by
  unfold laws_szSpanS.f
  rw [w64 (by omega) (by omega)]
  by_cases h : a < l0.length
  · rw [if_pos (by omega), if_pos h]
  · rw [if_neg (by omega), if_neg h]
theorem eqSpanS_at (x0 : List S77) (hn : x0.length ≤ 2097152) (d : Nat) : ∀ (i : Nat), i + d = x0.length →
    Ev (fun k => laws_eqSpanS.l0 k x0 x0 (i : Int)) true := by
  induction d with
  | zero =>
    intro i hi
    refine Ev.step (fun _ => rfl) ?_
    simp only [laws_eqSpanS.l0]
    exact ev_neg (by omega) (ev_some rfl)
  | succ d ih =>
    intro i hi
    refine Ev.step (fun _ => rfl) ?_
    simp only [laws_eqSpanS.l0]
    refine ev_pos (by omega) (ev_pos (by omega) (ev_pos (by omega) (ev_bind0 (a := true) (by unfold laws_eqSpan.f; rw [if_pos rfl, if_pos rfl]) (ev_pos (by trivial) ?_))))
    rw [wsucc (by omega)]
    exact ih (i + 1) (by omega)
theorem eqSpanS_ev (x0 : List S77) (hn : x0.length ≤ 2097152) : Ev (fun k => laws_eqSpanS.f k x0 x0) true := by
  unfold laws_eqSpanS.f
  exact ev_pos (by trivial) (eqSpanS_at x0 hn x0.length 0 (by omega))
/-- Span i of a set and those behind it are right, as both texts ask it. -/
def setOkFrom (s : List S77) : Nat → Nat → Bool
  | 0, _ => true
  | d + 1, i =>
    if 0 ≤ (rd_T77 s (i : Int)).f0 ∧ (rd_T77 s (i : Int)).f0 ≤ 9999 then
      if (rd_T77 s (i : Int)).f0 ≤ (rd_T77 s (i : Int)).f1 ∧ (rd_T77 s (i : Int)).f1 ≤ 9999 then
        if 0 < i then
          if (rd_T77 s (i : Int)).f0 ≤ wrap64 ((rd_T77 s ((i - 1 : Nat) : Int)).f1 + 1) then false else setOkFrom s d (i + 1)
        else setOkFrom s d (i + 1)
      else false
    else false
def setOk (s : List S77) : Bool := setOkFrom s s.length 0
theorem spec_setOk_at (s : List S77) (hn : s.length ≤ 1048576) (d : Nat) : ∀ i : Nat, i + d = s.length → Ev (fun k => spec_SetOk.l0 k s (i : Int)) (setOkFrom s d i) := by
  induction d with
  | zero =>
    intro i hi
    refine Ev.step (fun _ => rfl) ?_
    simp only [spec_SetOk.l0]
    exact ev_neg (by omega) (ev_some rfl)
  | succ d ih =>
    intro i hi
    refine Ev.step (fun _ => rfl) ?_
    simp only [spec_SetOk.l0]
    unfold setOkFrom
    rw [wsucc (by omega)]
    refine ev_pos (by omega) (ev_pos (by omega) (ev_bind0 (l1In_is _ _ _) ?_))
    by_cases h1 : 0 ≤ (rd_T77 s (i : Int)).f0 ∧ (rd_T77 s (i : Int)).f0 ≤ 9999
    · rw [if_pos h1]
      refine ev_pos (decide_eq_true h1) (ev_bind0 (l1In_is _ _ _) ?_)
      by_cases h2 : (rd_T77 s (i : Int)).f0 ≤ (rd_T77 s (i : Int)).f1 ∧ (rd_T77 s (i : Int)).f1 ≤ 9999
      · rw [if_pos h2]
        refine ev_pos (decide_eq_true h2) ?_
        by_cases h3 : 0 < i
        · rw [if_pos h3, wpred h3 (by omega)]
          refine ev_pos (by omega) (ev_pos (by omega) (ev_pos (by omega) ?_))
          by_cases h4 : (rd_T77 s (i : Int)).f0 ≤ wrap64 ((rd_T77 s ((i - 1 : Nat) : Int)).f1 + 1)
          · rw [if_pos h4]
            exact ev_pos h4 (ev_some rfl)
          · rw [if_neg h4]
            exact ev_neg h4 (ih (i + 1) (by omega))
        · rw [if_neg h3]
          exact ev_neg (by omega) (ih (i + 1) (by omega))
      · rw [if_neg h2]
        exact ev_neg (by rw [decide_eq_false h2]; exact Bool.false_ne_true) (ev_some rfl)
    · rw [if_neg h1]
      exact ev_neg (by rw [decide_eq_false h1]; exact Bool.false_ne_true) (ev_some rfl)
theorem spec_setOk_ev (s : List S77) (hn : s.length ≤ 1048576) : Ev (fun k => spec_SetOk.f k s) (setOk s) := spec_setOk_at s hn s.length 0 (by omega)
theorem impl_setOk_at (s : List S77) (hn : s.length ≤ 1048576) (d : Nat) : ∀ i : Nat, i + d = s.length → Ev (fun k => impl_SetOk.l0 k s s (s.length : Int) (i : Int)) (setOkFrom s d i) := by
  induction d with
  | zero =>
    intro i hi
    refine Ev.step (fun _ => rfl) ?_
    simp only [impl_SetOk.l0]
    exact ev_neg (by omega) (ev_some rfl)
  | succ d ih =>
    intro i hi
    refine Ev.step (fun _ => rfl) ?_
    simp only [impl_SetOk.l0]
    unfold setOkFrom
    rw [wsucc (by omega)]
    refine ev_pos (by omega) (ev_pos (by omega) (ev_pos (by omega) (ev_bind0 (within_is _ _ _) ?_)))
    by_cases h1 : 0 ≤ (rd_T77 s (i : Int)).f0 ∧ (rd_T77 s (i : Int)).f0 ≤ 9999
    · rw [if_pos h1]
      refine ev_pos (decide_eq_true h1) (ev_bind0 (within_is _ _ _) ?_)
      by_cases h2 : (rd_T77 s (i : Int)).f0 ≤ (rd_T77 s (i : Int)).f1 ∧ (rd_T77 s (i : Int)).f1 ≤ 9999
      · rw [if_pos h2]
        refine ev_pos (decide_eq_true h2) ?_
        by_cases h3 : 0 < i
        · rw [if_pos h3, wpred h3 (by omega)]
          refine ev_pos (by omega) (ev_pos (by omega) (ev_pos (by omega) ?_))
          by_cases h4 : (rd_T77 s (i : Int)).f0 ≤ wrap64 ((rd_T77 s ((i - 1 : Nat) : Int)).f1 + 1)
          · rw [if_pos h4]
            exact ev_pos h4 (ev_some rfl)
          · rw [if_neg h4]
            exact ev_neg h4 (ih (i + 1) (by omega))
        · rw [if_neg h3]
          exact ev_neg (by omega) (ih (i + 1) (by omega))
      · rw [if_neg h2]
        exact ev_neg (by rw [decide_eq_false h2]; exact Bool.false_ne_true) (ev_some rfl)
    · rw [if_neg h1]
      exact ev_neg (by rw [decide_eq_false h1]; exact Bool.false_ne_true) (ev_some rfl)
theorem impl_setOk_ev (s : List S77) (hn : s.length ≤ 1048576) : Ev (fun k => impl_SetOk.f k s) (setOk s) := impl_setOk_at s hn s.length 0 (by omega)
theorem spec_setHas_at (s : List S77) (n : Int) (hn : s.length ≤ 1048576) (d : Nat) : ∀ (i : Nat), i + d = s.length →
    Ev (fun k => spec_SetHas.l0 k s n (i : Int)) ((s.drop i).any (impl_SetHas.has n)) := by
  induction d with
  | zero =>
    intro i hi
    refine Ev.step (fun _ => rfl) ?_
    simp only [spec_SetHas.l0]
    exact ev_neg (by omega) (ev_some (by rw [List.drop_eq_nil_of_le (by omega)]; rfl))
  | succ d ih =>
    intro i hi
    refine Ev.step (fun _ => rfl) ?_
    simp only [spec_SetHas.l0]
    rw [List.drop_eq_getElem_cons (show i < s.length by omega), List.any_cons, wsucc (by omega), rdI_get (show i < s.length by omega)]
    refine ev_pos (by omega) (ev_pos (by omega) (ev_bind0 (l1In_is _ _ _) ?_))
    have e : impl_SetHas.has n (s[i]'(by omega)) = decide ((s[i]'(by omega)).f0 ≤ n ∧ n ≤ (s[i]'(by omega)).f1) := by
      unfold impl_SetHas.has
      rw [Bool.decide_and]
    rw [e]
    by_cases h : (s[i]'(by omega)).f0 ≤ n ∧ n ≤ (s[i]'(by omega)).f1
    · rw [decide_eq_true h, Bool.true_or]
      exact ev_pos rfl (ev_some rfl)
    · rw [decide_eq_false h, Bool.false_or]
      exact ev_neg (by decide) (ih (i + 1) (by omega))
theorem spec_setHas_ev (s : List S77) (n : Int) (hn : s.length ≤ 1048576) : Ev (fun k => spec_SetHas.f k s n) (s.any (impl_SetHas.has n)) := spec_setHas_at s n hn s.length 0 (by omega)
/-! ### sets of numbers, told by spans -/
def hasN (s : List S77) (n : Int) : Prop := ∃ x ∈ s, x.f0 ≤ n ∧ n ≤ x.f1
/-- The spans rise, no two touch. -/
def Nrm : List S77 → Prop
  | [] => True
  | x :: s => x.f0 ≤ x.f1 ∧ (∀ y ∈ s, x.f1 + 1 < y.f0) ∧ Nrm s
theorem hasN_nil (n : Int) : ¬ hasN [] n := fun ⟨_, h, _⟩ => by cases h
theorem hasN_cons (x : S77) (s : List S77) (n : Int) : hasN (x :: s) n ↔ (x.f0 ≤ n ∧ n ≤ x.f1) ∨ hasN s n := by
  constructor
  · rintro ⟨z, hz, h⟩
    rcases List.mem_cons.1 hz with rfl | hz
    · exact .inl h
    · exact .inr ⟨z, hz, h⟩
  · rintro (h | ⟨z, hz, h⟩)
    · exact ⟨x, List.mem_cons_self, h⟩
    · exact ⟨z, List.mem_cons_of_mem _ hz, h⟩
theorem hasN_append (s t : List S77) (n : Int) : hasN (s ++ t) n ↔ hasN s n ∨ hasN t n := by
  induction s with
  | nil => simp [hasN_nil]
  | cons x s ih => rw [List.cons_append, hasN_cons, hasN_cons, ih, or_assoc]
theorem hasN_one (x : S77) (n : Int) : hasN [x] n ↔ x.f0 ≤ n ∧ n ≤ x.f1 := by
  rw [hasN_cons]
  exact ⟨fun h => h.elim id (fun h => absurd h (hasN_nil n)), .inl⟩
theorem nrm_append : ∀ (s t : List S77), Nrm (s ++ t) ↔ Nrm s ∧ Nrm t ∧ ∀ x ∈ s, ∀ y ∈ t, x.f1 + 1 < y.f0 := by
  intro s
  induction s with
  | nil => intro t; simp [Nrm]
  | cons x s ih =>
    intro t
    rw [List.cons_append]
    simp only [Nrm, ih t, List.mem_append, List.mem_cons]
    constructor
    · rintro ⟨h1, h2, h3, h4, h5⟩
      refine ⟨⟨h1, fun y hy => h2 y (.inl hy), h3⟩, h4, fun z hz y hy => ?_⟩
      rcases hz with rfl | hz
      · exact h2 y (.inr hy)
      · exact h5 z hz y hy
    · rintro ⟨⟨h1, h2, h3⟩, h4, h5⟩
      refine ⟨h1, fun y hy => ?_, h3, h4, fun z hz y hy => h5 z (.inr hz) y hy⟩
      rcases hy with hy | hy
      · exact h2 y hy
      · exact h5 x (.inl rfl) y hy
theorem nrm_one (x : S77) : Nrm [x] ↔ x.f0 ≤ x.f1 := by simp [Nrm]
theorem Nrm.le {s : List S77} (h : Nrm s) : ∀ x ∈ s, x.f0 ≤ x.f1 := by
  induction s with
  | nil => intro x hx; cases hx
  | cons y s ih =>
    intro x hx
    rcases List.mem_cons.1 hx with rfl | hx
    · exact h.1
    · exact ih h.2.2 x hx
theorem Nrm.head_le {x : S77} {s : List S77} (h : Nrm (x :: s)) {n : Int} (hn : hasN (x :: s) n) : x.f0 ≤ n := by
  rcases (hasN_cons x s n).1 hn with hn | ⟨z, hz, h1, h2⟩
  · exact hn.1
  · have := h.2.1 z hz
    have := h.1
    omega
theorem Nrm.gap {x : S77} {s : List S77} (h : Nrm (x :: s)) : ¬ hasN (x :: s) (x.f1 + 1) := by
  intro hn
  rcases (hasN_cons x s _).1 hn with hn | ⟨z, hz, h1, h2⟩
  · omega
  · have := h.2.1 z hz
    omega
theorem Nrm.tail_gt {x : S77} {s : List S77} (h : Nrm (x :: s)) {n : Int} (hn : hasN s n) : x.f1 + 1 < n := by
  obtain ⟨z, hz, h1, h2⟩ := hn
  have := h.2.1 z hz
  omega
theorem Nrm.uniq : ∀ (s t : List S77), Nrm s → Nrm t → (∀ n, hasN s n ↔ hasN t n) → s = t := by
  intro s
  induction s with
  | nil =>
    intro t hs ht h
    cases t with
    | nil => rfl
    | cons y t => exact absurd ((h y.f0).2 ⟨y, List.mem_cons_self, Int.le_refl _, ht.1⟩) (hasN_nil _)
  | cons x s ih =>
    intro t hs ht h
    cases t with
    | nil => exact absurd ((h x.f0).1 ⟨x, List.mem_cons_self, Int.le_refl _, hs.1⟩) (hasN_nil _)
    | cons y t =>
      have h0 : x.f0 = y.f0 := by
        have a := hs.head_le ((h y.f0).2 ⟨y, List.mem_cons_self, Int.le_refl _, ht.1⟩)
        have b := ht.head_le ((h x.f0).1 ⟨x, List.mem_cons_self, Int.le_refl _, hs.1⟩)
        omega
      have h1 : x.f1 = y.f1 := by
        have := hs.1
        have := ht.1
        by_cases a : x.f1 < y.f1
        · exact absurd ((h (x.f1 + 1)).2 ⟨y, List.mem_cons_self, by omega, by omega⟩) hs.gap
        · by_cases b : y.f1 < x.f1
          · exact absurd ((h (y.f1 + 1)).1 ⟨x, List.mem_cons_self, by omega, by omega⟩) ht.gap
          · omega
      have e : x = y := by
        cases x; cases y
        simp only at h0 h1
        rw [h0, h1]
      subst e
      congr 1
      refine ih t hs.2.2 ht.2.2 (fun n => ⟨fun hn => ?_, fun hn => ?_⟩)
      · have := hs.tail_gt hn
        rcases (hasN_cons x t n).1 ((h n).1 ((hasN_cons x s n).2 (.inr hn))) with h | h
        · omega
        · exact h
      · have := ht.tail_gt hn
        rcases (hasN_cons x s n).1 ((h n).2 ((hasN_cons x t n).2 (.inr hn))) with h | h
        · omega
        · exact h
/-- A span is put into a set: what is behind is still to come, what is ahead is told already. -/
def putL : List S77 → List S77 → Bool → S77 → List S77
  | [], out, done, x => if done then out else out ++ [x]
  | y :: r, out, done, x =>
    if y.f1 + 1 < x.f0 then putL r (out ++ [y]) done x
    else if x.f1 + 1 < y.f0 then putL r ((if done then out else out ++ [x]) ++ [y]) true x
    else putL r out done ⟨if x.f0 < y.f0 then x.f0 else y.f0, if x.f1 > y.f1 then x.f1 else y.f1⟩
theorem putL_ok (r : List S77) : ∀ (out : List S77) (done : Bool) (x : S77), Nrm r → Nrm out → x.f0 ≤ x.f1 → (done = false → ∀ o ∈ out, o.f1 + 1 < x.f0) → (∀ o ∈ out, ∀ y ∈ r, o.f1 + 1 < y.f0) → (done = true → ∀ y ∈ r, x.f1 + 1 < y.f0) →
    Nrm (putL r out done x) ∧ ∀ n, hasN (putL r out done x) n ↔ hasN out n ∨ hasN r n ∨ (done = false ∧ x.f0 ≤ n ∧ n ≤ x.f1) := by
  induction r with
  | nil =>
    intro out done x hr ho hx h1 h2 h3
    cases done with
    | true => exact ⟨ho, fun n => by simp [putL, hasN_nil]⟩
    | false =>
      refine ⟨(nrm_append _ _).2 ⟨ho, (nrm_one x).2 hx, fun o hm y hy => ?_⟩, fun n => ?_⟩
      · rw [List.mem_singleton.1 hy]
        exact h1 rfl o hm
      · simp [putL, hasN_nil, hasN_append, hasN_one]
  | cons y r ih =>
    intro out done x hr ho hx h1 h2 h3
    have hy := hr.1
    have hyr := hr.2.1
    simp only [putL]
    by_cases c1 : y.f1 + 1 < x.f0
    · rw [if_pos c1]
      have hd : done = false := by
        cases done with
        | false => rfl
        | true => have := h3 rfl y List.mem_cons_self; omega
      subst hd
      obtain ⟨e1, e2⟩ := ih (out ++ [y]) false x hr.2.2 ((nrm_append _ _).2 ⟨ho, (nrm_one y).2 hy, fun o hm z hz => by rw [List.mem_singleton.1 hz]; exact h2 o hm y List.mem_cons_self⟩) hx
        (fun _ o hm => by
          rcases List.mem_append.1 hm with hm | hm
          · exact h1 rfl o hm
          · rw [List.mem_singleton.1 hm]; exact c1)
        (fun o hm z hz => by
          rcases List.mem_append.1 hm with hm | hm
          · exact h2 o hm z (List.mem_cons_of_mem _ hz)
          · rw [List.mem_singleton.1 hm]; exact hyr z hz)
        (fun h => by cases h)
      refine ⟨e1, fun n => ?_⟩
      rw [e2 n, hasN_append, hasN_one, hasN_cons]
      constructor
      · rintro ((h | h) | h | h)
        · exact .inl h
        · exact .inr (.inl (.inl h))
        · exact .inr (.inl (.inr h))
        · exact .inr (.inr h)
      · rintro (h | (h | h) | h)
        · exact .inl (.inl h)
        · exact .inl (.inr h)
        · exact .inr (.inl h)
        · exact .inr (.inr h)
    · rw [if_neg c1]
      by_cases c2 : x.f1 + 1 < y.f0
      · rw [if_pos c2]
        have hbase : Nrm (if done then out else out ++ [x]) := by
          cases done with
          | true => exact ho
          | false => exact (nrm_append _ _).2 ⟨ho, (nrm_one x).2 hx, fun o hm z hz => by rw [List.mem_singleton.1 hz]; exact h1 rfl o hm⟩
        have hlt : ∀ o ∈ (if done then out else out ++ [x]), ∀ z ∈ y :: r, o.f1 + 1 < z.f0 := by
          intro o hm z hz
          cases done with
          | true => exact h2 o hm z hz
          | false =>
            rcases List.mem_append.1 hm with hm | hm
            · exact h2 o hm z hz
            · rw [List.mem_singleton.1 hm]
              rcases List.mem_cons.1 hz with rfl | hz
              · exact c2
              · have := hyr z hz; omega
        obtain ⟨e1, e2⟩ := ih ((if done then out else out ++ [x]) ++ [y]) true x hr.2.2 ((nrm_append _ _).2 ⟨hbase, (nrm_one y).2 hy, fun o hm z hz => by rw [List.mem_singleton.1 hz]; exact hlt o hm y List.mem_cons_self⟩) hx
          (fun h => by cases h)
          (fun o hm z hz => by
            rcases List.mem_append.1 hm with hm | hm
            · exact hlt o hm z (List.mem_cons_of_mem _ hz)
            · rw [List.mem_singleton.1 hm]; exact hyr z hz)
          (fun _ z hz => by have := hyr z hz; omega)
        refine ⟨e1, fun n => ?_⟩
        rw [e2 n, hasN_append, hasN_one, hasN_cons]
        have hb : hasN (if done then out else out ++ [x]) n ↔ hasN out n ∨ (done = false ∧ x.f0 ≤ n ∧ n ≤ x.f1) := by
          cases done with
          | true => simp
          | false => simp [hasN_append, hasN_one]
        rw [hb]
        constructor
        · rintro (((h | h) | h) | h | h)
          · exact .inl h
          · exact .inr (.inr h)
          · exact .inr (.inl (.inl h))
          · exact .inr (.inl (.inr h))
          · cases h.1
        · rintro (h | (h | h) | h)
          · exact .inl (.inl (.inl h))
          · exact .inl (.inr h)
          · exact .inr (.inl h)
          · exact .inl (.inl (.inr h))
      · rw [if_neg c2]
        have hd : done = false := by
          cases done with
          | false => rfl
          | true => exact absurd (h3 rfl y List.mem_cons_self) c2
        subst hd
        obtain ⟨e1, e2⟩ := ih out false ⟨if x.f0 < y.f0 then x.f0 else y.f0, if x.f1 > y.f1 then x.f1 else y.f1⟩ hr.2.2 ho (by simp only; split <;> split <;> omega)
          (fun _ o hm => by
            have := h1 rfl o hm
            have := h2 o hm y List.mem_cons_self
            simp only
            split <;> omega)
          (fun o hm z hz => h2 o hm z (List.mem_cons_of_mem _ hz))
          (fun h => by cases h)
        refine ⟨e1, fun n => ?_⟩
        rw [e2 n, hasN_cons]
        have hh : (((if x.f0 < y.f0 then x.f0 else y.f0) ≤ n ∧ n ≤ (if x.f1 > y.f1 then x.f1 else y.f1)) ↔ ((y.f0 ≤ n ∧ n ≤ y.f1) ∨ (x.f0 ≤ n ∧ n ≤ x.f1))) := by
          split <;> split <;> omega
        simp only [hh, true_and]
        constructor
        · rintro (h | h | h | h)
          · exact .inl h
          · exact .inr (.inl (.inr h))
          · exact .inr (.inl (.inl h))
          · exact .inr (.inr h)
        · rintro (h | (h | h) | h)
          · exact .inl h
          · exact .inr (.inr (.inl h))
          · exact .inr (.inl h)
          · exact .inr (.inr (.inr h))
/-- A span is put into a set. -/
def put (s : List S77) (x : S77) : List S77 := putL s [] false x
theorem put_ok {s : List S77} {x : S77} (hs : Nrm s) (hx : x.f0 ≤ x.f1) : Nrm (put s x) ∧ ∀ n, hasN (put s x) n ↔ hasN s n ∨ (x.f0 ≤ n ∧ n ≤ x.f1) := by
  obtain ⟨h1, h2⟩ := putL_ok s [] false x hs trivial hx (fun _ o ho => by cases ho) (fun o ho => by cases ho) (fun h => by cases h)
  exact ⟨h1, fun n => by rw [put, h2 n]; simp [hasN_nil]⟩
/-- Sets are joined span by span. -/
def joinL (a b : List S77) : List S77 := b.foldl put a
theorem joinL_ok (b : List S77) : ∀ a : List S77, Nrm a → (∀ x ∈ b, x.f0 ≤ x.f1) → Nrm (joinL a b) ∧ ∀ n, hasN (joinL a b) n ↔ hasN a n ∨ hasN b n := by
  induction b with
  | nil => intro a ha hb; exact ⟨ha, fun n => by simp [joinL, hasN_nil]⟩
  | cons x b ih =>
    intro a ha hb
    obtain ⟨p1, p2⟩ := put_ok ha (hb x List.mem_cons_self)
    obtain ⟨q1, q2⟩ := ih (put a x) p1 (fun y hy => hb y (List.mem_cons_of_mem _ hy))
    refine ⟨q1, fun n => ?_⟩
    rw [show joinL a (x :: b) = joinL (put a x) b from rfl, q2 n, p2 n, hasN_cons, or_assoc]
/-- What is sorted is told as a set: the last span told is widened, or a new one begins. -/
def unL : List S77 → List S77 → List S77
  | [], out => out
  | x :: r, out =>
    if h : 0 < out.length then
      if x.f0 ≤ (out[out.length - 1]'(by omega)).f1 + 1 then unL r (out.set (out.length - 1) ⟨(out[out.length - 1]'(by omega)).f0, if (out[out.length - 1]'(by omega)).f1 > x.f1 then (out[out.length - 1]'(by omega)).f1 else x.f1⟩)
      else unL r (out ++ [x])
    else unL r (out ++ [x])
theorem snoc_form (l : List S77) (h : 0 < l.length) : ∃ o z, l = o ++ [z] := by
  have hne : l ≠ [] := by intro e; subst e; simp at h
  exact ⟨l.dropLast, l.getLast hne, (List.dropLast_concat_getLast hne).symm⟩
theorem unL_ok (r : List S77) : ∀ (out : List S77), Nrm out → List.Pairwise (fun x y => x.f0 ≤ y.f0) r → (∀ x ∈ r, x.f0 ≤ x.f1) → (∀ o z, out = o ++ [z] → ∀ y ∈ r, z.f0 ≤ y.f0) →
    Nrm (unL r out) ∧ ∀ n, hasN (unL r out) n ↔ hasN out n ∨ hasN r n := by
  induction r with
  | nil => intro out ho hp hr hl; exact ⟨ho, fun n => by simp [unL, hasN_nil]⟩
  | cons x r ih =>
    intro out ho hp hr hl
    have hx := hr x List.mem_cons_self
    have hp1 := (List.pairwise_cons.1 hp).1
    have hp2 := (List.pairwise_cons.1 hp).2
    simp only [unL]
    by_cases h0 : 0 < out.length
    · obtain ⟨o, z, rfl⟩ := snoc_form out h0
      have hz : (o ++ [z])[(o ++ [z]).length - 1]'(by omega) = z := by simp
      have hset : ∀ v, (o ++ [z]).set ((o ++ [z]).length - 1) v = o ++ [v] := by
        intro v
        rw [List.length_append, List.length_singleton, Nat.add_sub_cancel, List.set_append_right _ _ (Nat.le_refl _), Nat.sub_self]
        rfl
      rw [dif_pos h0]
      simp only [hz, hset]
      obtain ⟨n1, n2, n3⟩ := (nrm_append o [z]).1 ho
      have hzx := hl o z rfl x List.mem_cons_self
      have hzz := (nrm_one z).1 n2
      by_cases c : x.f0 ≤ z.f1 + 1
      · rw [if_pos c]
        obtain ⟨e1, e2⟩ := ih (o ++ [⟨z.f0, if z.f1 > x.f1 then z.f1 else x.f1⟩]) ((nrm_append _ _).2 ⟨n1, (nrm_one _).2 (by simp only; split <;> omega), fun a ha b hb => by
            rw [List.mem_singleton.1 hb]; exact n3 a ha z (List.mem_singleton.2 rfl)⟩) hp2 (fun y hy => hr y (List.mem_cons_of_mem _ hy))
          (fun o' z' e y hy => by
            have := (List.append_inj_right' e rfl)
            simp only [List.cons.injEq, and_true] at this
            subst this
            have := hp1 y hy
            simp only
            omega)
        refine ⟨e1, fun n => ?_⟩
        rw [e2 n, hasN_append, hasN_append, hasN_one, hasN_one, hasN_cons]
        have hh : ((z.f0 ≤ n ∧ n ≤ (if z.f1 > x.f1 then z.f1 else x.f1)) ↔ ((z.f0 ≤ n ∧ n ≤ z.f1) ∨ (x.f0 ≤ n ∧ n ≤ x.f1))) := by
          split <;> omega
        simp only [hh, or_assoc]
      · rw [if_neg c]
        obtain ⟨e1, e2⟩ := ih (o ++ [z] ++ [x]) ((nrm_append _ _).2 ⟨ho, (nrm_one x).2 hx, fun a ha b hb => by
            rw [List.mem_singleton.1 hb]
            rcases List.mem_append.1 ha with ha | ha
            · have := n3 a ha z (List.mem_singleton.2 rfl); omega
            · rw [List.mem_singleton.1 ha]; omega⟩) hp2 (fun y hy => hr y (List.mem_cons_of_mem _ hy))
          (fun o' z' e y hy => by
            have := (List.append_inj_right' e rfl)
            simp only [List.cons.injEq, and_true] at this
            subst this
            exact hp1 y hy)
        refine ⟨e1, fun n => ?_⟩
        rw [e2 n, hasN_append, hasN_one, hasN_cons, or_assoc]
    · rw [dif_neg h0]
      have : out = [] := by
        cases out with
        | nil => rfl
        | cons a l => simp at h0
      subst this
      obtain ⟨e1, e2⟩ := ih ([] ++ [x]) ((nrm_one x).2 hx) hp2 (fun y hy => hr y (List.mem_cons_of_mem _ hy))
        (fun o' z' e y hy => by
          have := (List.append_inj_right' e rfl)
          simp only [List.cons.injEq, and_true] at this
          subst this
          exact hp1 y hy)
      refine ⟨e1, fun n => ?_⟩
      rw [e2 n, hasN_append, hasN_one, hasN_cons, or_assoc]
theorem hasN_perm {s t : List S77} (h : s.Perm t) (n : Int) : hasN s n ↔ hasN t n := ⟨fun ⟨x, hx, e⟩ => ⟨x, h.mem_iff.1 hx, e⟩, fun ⟨x, hx, e⟩ => ⟨x, h.mem_iff.2 hx, e⟩⟩
/-- Both ways to join tell one set. -/
theorem un_join {a b d : List S77} (ha : Nrm a) (hb : ∀ x ∈ b, x.f0 ≤ x.f1) (hd : d.Perm (a ++ b)) (hs : List.Pairwise (fun x y => x.f0 ≤ y.f0) d) : unL d [] = joinL a b := by
  obtain ⟨h1, h2⟩ := joinL_ok b a ha hb
  obtain ⟨h3, h4⟩ := unL_ok d [] trivial hs (fun x hx => by
    rcases List.mem_append.1 (hd.mem_iff.1 hx) with h | h
    · exact ha.le x h
    · exact hb x h) (fun o z e => by simp at e)
  refine Nrm.uniq _ _ h3 h1 (fun n => ?_)
  rw [h4 n, h2 n, hasN_perm hd, hasN_append]
  simp [hasN_nil]
/-! ### right sets: rising, apart, within 0..9999 -/
def Bd (s : List S77) : Prop := ∀ x ∈ s, 0 ≤ x.f0 ∧ x.f1 ≤ 9999
theorem nrm_iff : ∀ s : List S77, Nrm s ↔ ∀ (j : Nat) (hj : j < s.length), s[j].f0 ≤ s[j].f1 ∧ ∀ (hz : 0 < j), (s[j - 1]'(by omega)).f1 + 1 < s[j].f0 := by
  intro s
  induction s with
  | nil => exact ⟨fun _ j hj => absurd hj (by simp), fun _ => trivial⟩
  | cons x s ih =>
    constructor
    · rintro ⟨h1, h2, h3⟩ j hj
      cases j with
      | zero => exact ⟨h1, fun hz => absurd hz (by omega)⟩
      | succ j =>
        have hj' : j < s.length := by simpa using hj
        obtain ⟨g1, g2⟩ := (ih.1 h3) j hj'
        refine ⟨g1, fun _ => ?_⟩
        cases j with
        | zero => exact h2 _ (List.getElem_mem hj')
        | succ j => exact g2 (by omega)
    · intro h
      have hs : Nrm s := ih.2 (fun j hj => by
        obtain ⟨g1, g2⟩ := h (j + 1) (by simpa using hj)
        refine ⟨g1, fun hz => ?_⟩
        have := g2 (by omega)
        cases j with
        | zero => omega
        | succ j => exact this)
      refine ⟨(h 0 (by simp)).1, fun y hy => ?_, hs⟩
      cases s with
      | nil => cases hy
      | cons z s =>
        have hz := (h 1 (by simp)).2 (by omega)
        rcases List.mem_cons.1 hy with rfl | hy
        · exact hz
        · have h1 := hs.2.1 y hy
          have h2 := hs.1
          have hz' : x.f1 + 1 < z.f0 := hz
          omega
theorem setOkFrom_iff (s : List S77) (d : Nat) : ∀ i, i + d = s.length → (setOkFrom s d i = true ↔ ∀ (j : Nat) (hj : j < s.length), i ≤ j → (0 ≤ s[j].f0 ∧ s[j].f0 ≤ 9999) ∧ (s[j].f0 ≤ s[j].f1 ∧ s[j].f1 ≤ 9999) ∧ ∀ (hz : 0 < j), ¬ s[j].f0 ≤ wrap64 ((s[j - 1]'(by omega)).f1 + 1)) := by
  induction d with
  | zero => intro i hi; exact ⟨fun _ j hj hij => absurd hj (by omega), fun _ => rfl⟩
  | succ d ih =>
    intro i hi
    have hil : i < s.length := by omega
    unfold setOkFrom
    rw [rdI_get hil]
    have key : (∀ (j : Nat) (hj : j < s.length), i ≤ j → (0 ≤ s[j].f0 ∧ s[j].f0 ≤ 9999) ∧ (s[j].f0 ≤ s[j].f1 ∧ s[j].f1 ≤ 9999) ∧ ∀ (hz : 0 < j), ¬ s[j].f0 ≤ wrap64 ((s[j - 1]'(by omega)).f1 + 1)) ↔ ((0 ≤ s[i].f0 ∧ s[i].f0 ≤ 9999) ∧ (s[i].f0 ≤ s[i].f1 ∧ s[i].f1 ≤ 9999) ∧ ∀ (hz : 0 < i), ¬ s[i].f0 ≤ wrap64 ((s[i - 1]'(by omega)).f1 + 1)) ∧ setOkFrom s d (i + 1) = true := by
      rw [ih (i + 1) (by omega)]
      constructor
      · intro h
        exact ⟨h i hil (Nat.le_refl _), fun j hj hij => h j hj (by omega)⟩
      · rintro ⟨h1, h2⟩ j hj hij
        by_cases e : i = j
        · subst e; exact h1
        · exact h2 j hj (by omega)
    rw [key]
    by_cases h1 : 0 ≤ s[i].f0 ∧ s[i].f0 ≤ 9999
    · rw [if_pos h1]
      by_cases h2 : s[i].f0 ≤ s[i].f1 ∧ s[i].f1 ≤ 9999
      · rw [if_pos h2]
        by_cases h3 : 0 < i
        · rw [if_pos h3, rdI_get (show i - 1 < s.length by omega)]
          by_cases h4 : s[i].f0 ≤ wrap64 ((s[i - 1]'(by omega)).f1 + 1)
          · rw [if_pos h4]
            exact ⟨fun h => (by cases h), fun h => absurd h4 (h.1.2.2 h3)⟩
          · rw [if_neg h4]
            exact ⟨fun h => ⟨⟨h1, h2, fun _ => h4⟩, h⟩, fun h => h.2⟩
        · rw [if_neg h3]
          exact ⟨fun h => ⟨⟨h1, h2, fun hz => absurd hz h3⟩, h⟩, fun h => h.2⟩
      · rw [if_neg h2]
        exact ⟨fun h => (by cases h), fun h => absurd h.1.2.1 h2⟩
    · rw [if_neg h1]
      exact ⟨fun h => (by cases h), fun h => absurd h.1.1 h1⟩
theorem setOk_iff (s : List S77) : setOk s = true ↔ Nrm s ∧ Bd s := by
  unfold setOk
  rw [setOkFrom_iff s s.length 0 (by omega), nrm_iff]
  constructor
  · intro h
    have hb : Bd s := fun x hx => by
      obtain ⟨j, hj, rfl⟩ := List.getElem_of_mem hx
      have := h j hj (by omega)
      exact ⟨this.1.1, this.2.1.2⟩
    refine ⟨fun j hj => ⟨(h j hj (by omega)).2.1.1, fun hz => ?_⟩, hb⟩
    have h1 := (h j hj (by omega)).2.2 hz
    have h2 := h (j - 1) (by omega) (by omega)
    rw [w64 (by omega) (by omega)] at h1
    omega
  · rintro ⟨h, hb⟩ j hj _
    have h1 := hb _ (List.getElem_mem hj)
    have h2 := h j hj
    refine ⟨⟨h1.1, by omega⟩, ⟨h2.1, h1.2⟩, fun hz => ?_⟩
    have h3 := hb _ (List.getElem_mem (show j - 1 < s.length by omega))
    have h4 := h2.2 hz
    have h5 := (h (j - 1) (by omega)).1
    rw [w64 (by omega) (by omega)]
    omega
/-! ### impl.union: the spans sorted, then told as a set -/
theorem sortA_list (l : List S77) : (sortA l).toList.Perm l ∧ List.Pairwise (fun x y => x.f0 ≤ y.f0) (sortA l).toList := by
  obtain ⟨⟨h1, _, h3⟩, h4⟩ := sortA_ok l
  have e : (sortA l).size = l.toArray.size := h1
  refine ⟨?_, ?_⟩
  · rw [← e] at h3
    simp only [Array.extract_size] at h3
    rw [e] at h3
    simpa using h3
  · rw [List.pairwise_iff_getElem]
    intro i j hi hj hij
    have hi' : i < (sortA l).size := by simpa using hi
    have hj' : j < (sortA l).size := by simpa using hj
    have := h4 i j (Nat.zero_le _) hij (by omega)
    rw [sortCf_lt, getElem!_pos (sortA l) i hi', getElem!_pos (sortA l) j hj'] at this
    simp only [decide_eq_false_iff_not] at this
    simp only [Array.getElem_toList]
    omega
theorem mx_is (a b : Int) : mx a b = if a > b then a else b := by
  unfold mx
  split <;> split <;> omega
theorem union_at (d : List S77) (hb : ∀ x ∈ d, 0 ≤ x.f1 ∧ x.f1 ≤ 9999) (hd : d.length ≤ 2097152) (n : Nat) : ∀ (i : Nat) (out : List S77), i + n = d.length → out.length ≤ i → (∀ o ∈ out, 0 ≤ o.f1 ∧ o.f1 ≤ 9999) →
    Ev (fun k => impl_union.l0 k out d (d.length : Int) (i : Int)) (unL (d.drop i) out) := by
  induction n with
  | zero =>
    intro i out hi ho hob
    refine Ev.step (fun _ => rfl) ?_
    simp only [impl_union.l0]
    refine ev_neg (by omega) (ev_some ?_)
    rw [List.drop_of_length_le (by omega)]
    rfl
  | succ n ih =>
    intro i out hi ho hob
    have hil : i < d.length := by omega
    have hx := hb _ (List.getElem_mem hil)
    refine Ev.step (fun _ => rfl) ?_
    simp only [impl_union.l0]
    rw [List.drop_eq_getElem_cons hil, wsucc (by omega), rdI_get hil]
    refine ev_pos (by omega) (ev_pos (by omega) (ev_pos (by omega) ?_))
    have ap : Ev (fun k => if out.length < 8796093022208 then impl_union.l0 k (out ++ [(⟨d[i].f0, d[i].f1⟩ : S77)]) d (d.length : Int) ((i + 1 : Nat) : Int) else none) (unL (d.drop (i + 1)) (out ++ [d[i]])) :=
      ev_pos (by omega) (ih (i + 1) _ (by omega) (by simp; omega) (fun o h => by
        rcases List.mem_append.1 h with h | h
        · exact hob o h
        · rw [List.mem_singleton.1 h]; exact hx))
    by_cases h0 : 0 < out.length
    · have hz := hob _ (List.getElem_mem (show out.length - 1 < out.length by omega))
      simp only [unL]
      rw [dif_pos h0, wpred h0 (by omega), rdI_get (show out.length - 1 < out.length by omega), w64 (x := (out[out.length - 1]'(by omega)).f1 + 1) (by omega) (by omega), Int.toNat_natCast, mx_is]
      refine ev_pos (by omega) (ev_pos (by omega) (ev_pos (by omega) ?_))
      by_cases c : d[i].f0 ≤ (out[out.length - 1]'(by omega)).f1 + 1
      · rw [if_pos c]
        refine ev_pos c (ih (i + 1) _ (by omega) (by simp; omega) (fun o h => ?_))
        rcases List.mem_or_eq_of_mem_set h with h | h
        · exact hob o h
        · subst h
          simp only
          split <;> omega
      · rw [if_neg c]
        exact ev_neg c ap
    · simp only [unL]
      rw [dif_neg h0]
      exact ev_neg (by omega) ap
theorem impl_union_ev (l : List S77) (hl : l.length ≤ 2097152) (hb : ∀ x ∈ l, 0 ≤ x.f1 ∧ x.f1 ≤ 9999) : Ev (fun k => impl_union.f k l) (unL (sortA l).toList []) := by
  have hp := (sortA_list l).1
  have hlen := hp.length_eq
  unfold impl_union.f
  refine ev_bind0 (a := l) (by unfold impl_copySet.f; rw [if_pos (by simp; omega), List.nil_append]) ?_
  refine ev_bind0 (a := (sortA l).toList) (by unfold slices_SortFunc_impl_Span.f; rw [if_pos (by omega)]) ?_
  rw [← hlen]
  have := union_at (sortA l).toList (fun x hx => hb x (hp.mem_iff.1 hx)) (by omega) (sortA l).toList.length 0 [] (by omega) (by simp) (fun o h => by cases h)
  rw [List.drop_zero] at this
  exact this
theorem union_join {a b : List S77} (ha : Nrm a) (hA : Bd a) (hb : ∀ x ∈ b, x.f0 ≤ x.f1) (hB : Bd b) (hl : (a ++ b).length ≤ 2097152) : Ev (fun k => impl_union.f k (a ++ b)) (joinL a b) := by
  have h := impl_union_ev (a ++ b) hl (fun x hx => by
    rcases List.mem_append.1 hx with h | h
    · have := hA x h; have := ha.le x h; omega
    · have := hB x h; have := hb x h; omega)
  rwa [un_join ha hb (sortA_list _).1 (sortA_list _).2] at h
/-! ### spec.l5Put, spec.l5Join -/
theorem putL_len (r : List S77) : ∀ (out : List S77) (done : Bool) (x : S77), (putL r out done x).length ≤ out.length + r.length + (if done then 0 else 1) := by
  induction r with
  | nil => intro out done x; unfold putL; cases done <;> simp
  | cons y r ih =>
    intro out done x
    unfold putL
    split
    · have := ih (out ++ [y]) done x; simp only [List.length_append, List.length_cons, List.length_nil] at this ⊢; omega
    · split
      · have := ih ((if done then out else out ++ [x]) ++ [y]) true x
        cases done <;> simp only [List.length_append, List.length_cons, List.length_nil, if_true, if_false, Bool.false_eq_true] at this ⊢ <;> omega
      · have := ih out done ⟨if x.f0 < y.f0 then x.f0 else y.f0, if x.f1 > y.f1 then x.f1 else y.f1⟩; simp only [List.length_cons] at this ⊢; omega
theorem putL_bd (r : List S77) : ∀ (out : List S77) (done : Bool) (x : S77), Bd r → Bd out → (0 ≤ x.f0 ∧ x.f1 ≤ 9999) → Bd (putL r out done x) := by
  have ap : ∀ (l : List S77) (x : S77), Bd l → (0 ≤ x.f0 ∧ x.f1 ≤ 9999) → Bd (l ++ [x]) := fun l x hl hx z hz => by
    rcases List.mem_append.1 hz with h | h
    · exact hl z h
    · rw [List.mem_singleton.1 h]; exact hx
  induction r with
  | nil =>
    intro out done x _ ho hx
    unfold putL
    cases done
    · exact ap _ _ ho hx
    · exact ho
  | cons y r ih =>
    intro out done x hr ho hx
    have hy := hr y List.mem_cons_self
    have hr' : Bd r := fun z hz => hr z (List.mem_cons_of_mem _ hz)
    unfold putL
    split
    · exact ih _ _ _ hr' (ap _ _ ho hy) hx
    · split
      · refine ih _ _ _ hr' (ap _ _ ?_ hy) hx
        cases done
        · exact ap _ _ ho hx
        · exact ho
      · refine ih _ _ _ hr' ho ?_
        simp only
        constructor <;> split <;> omega
theorem spec_put_at (s : List S77) (hs : Bd s) (hle : ∀ x ∈ s, x.f0 ≤ x.f1) (hn : s.length ≤ 2097152) (d : Nat) : ∀ (i : Nat) (out : List S77) (done : Bool) (x : S77), i + d = s.length → out.length ≤ 2 * i → (0 ≤ x.f0 ∧ x.f1 ≤ 9999 ∧ x.f0 ≤ x.f1) →
    Ev (fun k => spec_l5Put.l0 k s out done (i : Int) x.f0 x.f1) (putL (s.drop i) out done x) := by
  induction d with
  | zero =>
    intro i out done x hi ho hx
    refine Ev.step (fun _ => rfl) ?_
    simp only [spec_l5Put.l0]
    rw [List.drop_of_length_le (by omega)]
    refine ev_neg (by omega) ?_
    unfold putL
    cases done
    · exact ev_neg (by decide) (ev_pos (by omega) (ev_some rfl))
    · exact ev_pos rfl (ev_some rfl)
  | succ d ih =>
    intro i out done x hi ho hx
    have hil : i < s.length := by omega
    have hy := hs _ (List.getElem_mem hil)
    have hyl := hle _ (List.getElem_mem hil)
    refine Ev.step (fun _ => rfl) ?_
    simp only [spec_l5Put.l0]
    rw [List.drop_eq_getElem_cons hil, wsucc (by omega), rdI_get hil, w64 (x := s[i].f1 + 1) (by omega) (by omega), w64 (x := x.f1 + 1) (by omega) (by omega)]
    unfold putL
    refine ev_pos (by omega) (ev_pos (by omega) ?_)
    by_cases c1 : s[i].f1 + 1 < x.f0
    · rw [if_pos c1]
      exact ev_pos c1 (ev_pos (by omega) (ih (i + 1) _ done x (by omega) (by simp; omega) hx))
    · rw [if_neg c1]
      refine ev_neg c1 ?_
      by_cases c2 : x.f1 + 1 < s[i].f0
      · rw [if_pos c2]
        refine ev_pos (by omega) ?_
        cases done
        · refine ev_neg (by decide) (ev_pos (by omega) (ev_bind0 rfl (ev_pos (by simp; omega) ?_)))
          exact ih (i + 1) (out ++ [x] ++ [s[i]]) true x (by omega) (by simp; omega) hx
        · exact ev_pos rfl (ev_pos (by omega) (ih (i + 1) _ true x (by omega) (by simp; omega) hx))
      · rw [if_neg c2]
        refine ev_neg (by omega) (ev_bind0 (a := if x.f0 < s[i].f0 then x.f0 else s[i].f0) (by unfold spec_l1Min.f; split <;> rfl) (ev_bind0 (a := if x.f1 > s[i].f1 then x.f1 else s[i].f1) (by unfold spec_l1Max.f; split <;> rfl) ?_))
        refine ih (i + 1) out done ⟨if x.f0 < s[i].f0 then x.f0 else s[i].f0, if x.f1 > s[i].f1 then x.f1 else s[i].f1⟩ (by omega) (by omega) ?_
        simp only
        refine ⟨?_, ?_, ?_⟩ <;> repeat' split
        all_goals omega
theorem spec_put_ev (s : List S77) (x : S77) (hs : Bd s) (hn : Nrm s) (hl : s.length ≤ 2097152) (hx : 0 ≤ x.f0 ∧ x.f1 ≤ 9999 ∧ x.f0 ≤ x.f1) : Ev (fun k => spec_l5Put.f k s x.f0 x.f1) (put s x) := by
  unfold spec_l5Put.f put
  have := spec_put_at s hs hn.le hl s.length 0 [] false x (by omega) (by simp) hx
  rw [List.drop_zero] at this
  exact this
theorem put_len (s : List S77) (x : S77) : (put s x).length ≤ s.length + 1 := by
  have := putL_len s [] false x
  unfold put
  simp at this
  omega
theorem put_bd {s : List S77} {x : S77} (hs : Bd s) (hx : 0 ≤ x.f0 ∧ x.f1 ≤ 9999) : Bd (put s x) := putL_bd s [] false x hs (fun _ h => by cases h) hx
/-- What SetAdd comes to. -/
def addV (s : List S77) (n : Int) : List S77 × Bool := if setOk s = true ∧ (0 ≤ n ∧ n ≤ 9999) ∧ s.any (impl_SetHas.has n) = false then (put s ⟨n, n⟩, true) else (s, false)
theorem spec_setAdd_ev (s : List S77) (n : Int) (hs : s.length ≤ 1048576) : Ev (fun k => spec_SetAdd.f k s n) (addV s n) := by
  have bad : ∀ v : Bool, v = true → Ev (fun k => spec_SetAdd.j0 k s n v) (s, false) := fun v hv => by
    refine Ev.step (fun _ => rfl) ?_
    simp only [spec_SetAdd.j0]
    exact ev_pos hv (ev_bind0 (a := s) (by unfold spec_l5Copy.f; rw [Option.bind_some, if_pos (by simp; omega), List.nil_append]) (ev_some rfl))
  unfold spec_SetAdd.f addV
  refine Ev.bind (spec_setOk_ev s hs) ?_
  by_cases h1 : setOk s = true
  · refine ev_pos h1 (ev_bind0 (l1In_is _ _ _) ?_)
    by_cases h2 : 0 ≤ n ∧ n ≤ 9999
    · refine ev_pos (decide_eq_true h2) (Ev.bind (spec_setHas_ev s n hs) ?_)
      cases h3 : s.any (impl_SetHas.has n) with
      | true =>
        rw [if_neg (fun h => by cases h.2.2)]
        exact bad true rfl
      | false =>
        rw [if_pos ⟨h1, h2, rfl⟩]
        obtain ⟨n1, b1⟩ := (setOk_iff s).1 h1
        refine Ev.step (fun _ => rfl) ?_
        simp only [spec_SetAdd.j0]
        exact ev_neg (by decide) (Ev.bind (spec_put_ev s ⟨n, n⟩ b1 n1 (by omega) ⟨h2.1, h2.2, Int.le_refl _⟩) (ev_some rfl))
    · rw [if_neg (fun h => h2 h.2.1)]
      exact ev_neg (by rw [decide_eq_false h2]; exact Bool.false_ne_true) (bad true rfl)
  · rw [if_neg (fun h => h1 h.1)]
    exact ev_neg h1 (bad true rfl)
theorem impl_setAdd_ev (s : List S77) (n : Int) (hs : s.length ≤ 1048576) : Ev (fun k => impl_SetAdd.f k s n) (addV s n) := by
  have bad : ∀ v : Bool, v = true → Ev (fun k => impl_SetAdd.j0 k s n v) (s, false) := fun v hv => by
    refine Ev.step (fun _ => rfl) ?_
    simp only [impl_SetAdd.j0]
    exact ev_pos hv (ev_bind0 (a := s) (by unfold impl_copySet.f; rw [if_pos (by simp; omega), List.nil_append]) (ev_some rfl))
  unfold impl_SetAdd.f addV
  refine Ev.bind (impl_setOk_ev s hs) ?_
  by_cases h1 : setOk s = true
  · refine ev_pos h1 (ev_bind0 (within_is _ _ _) ?_)
    by_cases h2 : 0 ≤ n ∧ n ≤ 9999
    · refine ev_pos (decide_eq_true h2) (ev_bind0 rfl ?_)
      cases h3 : s.any (impl_SetHas.has n) with
      | true =>
        rw [if_neg (fun h => by cases h.2.2)]
        exact bad true rfl
      | false =>
        rw [if_pos ⟨h1, h2, rfl⟩]
        obtain ⟨n1, b1⟩ := (setOk_iff s).1 h1
        refine Ev.step (fun _ => rfl) ?_
        simp only [impl_SetAdd.j0]
        refine ev_neg (by decide) (ev_bind0 (a := s) (by unfold impl_copySet.f; rw [if_pos (by simp; omega), List.nil_append]) (ev_pos (by omega) ?_))
        have h := union_join n1 b1 (b := [⟨n, n⟩]) (fun x hx => by rw [List.mem_singleton.1 hx]; exact Int.le_refl _) (fun x hx => by rw [List.mem_singleton.1 hx]; exact h2) (by simp; omega)
        exact Ev.bind h (ev_some rfl)
    · rw [if_neg (fun h => h2 h.2.1)]
      exact ev_neg (by rw [decide_eq_false h2]; exact Bool.false_ne_true) (bad true rfl)
  · rw [if_neg (fun h => h1 h.1)]
    exact ev_neg h1 (bad true rfl)
theorem addV_len (s : List S77) (n : Int) : (addV s n).1.length ≤ s.length + 1 := by
  unfold addV
  split
  · exact put_len s _
  · simp
/-- What a mark writes into spans, from a number on. -/
def msp (a n : Nat) : List S77 := (List.range n).map fun j => ⟨((a + 2 * j : Nat) : Int), ((a + 2 * j + 1 : Nat) : Int)⟩
theorem msp_length (a n : Nat) : (msp a n).length = n := by simp [msp]
theorem msp_get (a n i : Nat) (h : i < (msp a n).length) : (msp a n)[i] = ⟨((a + 2 * i : Nat) : Int), ((a + 2 * i + 1 : Nat) : Int)⟩ := by simp [msp]
theorem markSpanS_at (a : Nat) (n : Nat) (hn : a + 2 * n ≤ 281474976702464) (d : Nat) : ∀ (i : Nat) (x3 : List S77), i + d = n → x3.length = n → x3.take i = (msp a n).take i →
    Ev (fun k => laws_markSpanS.l0 k x3 ((a + 2 * i : Nat) : Int) (i : Int)) (((a + 2 * n : Nat) : Int), msp a n) := by
  induction d with
  | zero =>
    intro i x3 hi hl ht
    refine Ev.step (fun _ => rfl) ?_
    simp only [laws_markSpanS.l0]
    refine ev_neg (by omega) (ev_some ?_)
    rw [take_all (ys := msp a n) (by rw [hl, msp_length]) (by rw [msp_length]; omega) ht, show i = n by omega]
  | succ d ih =>
    intro i x3 hi hl ht
    refine Ev.step (fun _ => rfl) ?_
    simp only [laws_markSpanS.l0]
    refine ev_pos (by omega) (ev_pos (by omega) (ev_bind0 rfl ?_))
    rw [wsucc (show i ≤ 281474976702464 by omega), Int.toNat_natCast, wsucc (show a + 2 * i ≤ 281474976702464 by omega), wsucc (show a + 2 * i + 1 ≤ 281474976702464 by omega)]
    rw [rdI_get (xs := x3.set i _) (show i < (x3.set i _).length by simp; omega)]
    simp only [List.getElem_set_self, List.set_set]
    have e : (⟨((a + 2 * i : Nat) : Int), ((a + 2 * i + 1 : Nat) : Int)⟩ : S77) = (msp a n)[i]'(by rw [msp_length]; omega) := by rw [msp_get]
    rw [e, show a + 2 * i + 1 + 1 = a + 2 * (i + 1) by omega]
    exact ih (i + 1) _ (by omega) (by simp [hl]) (take_set (ys := msp a n) (by rw [hl, msp_length]) (by rw [msp_length]; omega) ht)
theorem markSpanS_ev (x0 : List S77) (a : Nat) (hn : a + 2 * x0.length ≤ 281474976702464) : Ev (fun k => laws_markSpanS.f k x0 (a : Int)) (((a + 2 * x0.length : Nat) : Int), msp a x0.length) := by
  unfold laws_markSpanS.f
  exact markSpanS_at a x0.length hn x0.length 0 x0 (by omega) rfl (by simp)
theorem heldSpanS_at (a : Nat) (n : Nat) (hn : a + 2 * n ≤ 281474976702464) (d : Nat) : ∀ (i : Nat), i + d = n →
    Ev (fun k => laws_heldSpanS.l0 k (msp a n) ((a + 2 * i : Nat) : Int) (i : Int)) ((a + 2 * n : Nat) : Int) := by
  induction d with
  | zero =>
    intro i hi
    refine Ev.step (fun _ => rfl) ?_
    simp only [laws_heldSpanS.l0, msp_length]
    refine ev_neg (by omega) (ev_some ?_)
    rw [show i = n by omega]
  | succ d ih =>
    intro i hi
    refine Ev.step (fun _ => rfl) ?_
    simp only [laws_heldSpanS.l0, msp_length]
    rw [wsucc (show i ≤ 281474976702464 by omega), wsucc (show a + 2 * i ≤ 281474976702464 by omega), wsucc (show a + 2 * i + 1 ≤ 281474976702464 by omega), rdI_get (show i < (msp a n).length by rw [msp_length]; omega), msp_get]
    refine ev_pos (by omega) (ev_pos (by omega) (ev_pos rfl (ev_pos rfl ?_)))
    rw [show a + 2 * i + 1 + 1 = a + 2 * (i + 1) by omega]
    exact ih (i + 1) (by omega)
theorem heldSpanS_ev (a n : Nat) (hn : a + 2 * n ≤ 281474976702464) : Ev (fun k => laws_heldSpanS.f k (msp a n) (a : Int)) ((a + 2 * n : Nat) : Int) := by
  unfold laws_heldSpanS.f
  exact heldSpanS_at a n hn n 0 (by omega)
theorem FnExactSetAdd : laws_FnExactSetAdd.Pure := by
  intro l n h _
  refine (?_ : Ev (fun k => laws_FnExactSetAdd.f k l n) true).rounds
  unfold laws_FnExactSetAdd.f
  refine ev_bind0 (szSpanS_is l 1048576 (by omega) (by omega) h.1) ?_
  by_cases hl : (1048576 : Int) < l.length
  · rw [if_pos hl]
    exact ev_pos (by omega) (ev_some rfl)
  rw [if_neg hl]
  have hn : l.length ≤ 1048576 := by omega
  have hm : (l.map cvSpan).length ≤ 1048576 := by rw [List.length_map]; exact hn
  have T := toSpanS_ev l hn
  have S := spec_setAdd_ev (l.map cvSpan) n hm
  have I := impl_setAdd_ev (l.map cvSpan) n hm
  have hv : (addV (l.map cvSpan) n).1.length ≤ 1048577 := by
    have := addV_len (l.map cvSpan) n
    omega
  generalize addV (l.map cvSpan) n = v at S I hv
  have E := eqSpanS_ev v.1 (by omega)
  have hne : (v.2 != v.2) = false := by simp
  refine ev_neg (by omega) (Ev.bind T (Ev.bind S (Ev.bind T (Ev.bind I (Ev.bind E (ev_pos (by trivial) ?_))))))
  rw [hne]
  refine Ev.step (fun _ => rfl) ?_
  simp only [laws_FnExactSetAdd.j0]
  refine ev_neg (by decide) (Ev.bind T (Ev.bind (eqSpanS_ev _ (by omega)) (ev_pos (by trivial) ?_)))
  refine Ev.bind (markSpanS_ev _ 1 (by omega)) (ev_neg (by omega) (Ev.bind E (ev_pos (by trivial) ?_)))
  rw [hne]
  refine Ev.step (fun _ => rfl) ?_
  simp only [laws_FnExactSetAdd.j1]
  refine ev_neg (by decide) (Ev.bind (markSpanS_ev _ 1 (by omega)) (Ev.bind (heldSpanS_ev 1 _ (by omega)) (ev_neg (by omega) (ev_pos rfl ?_))))
  refine Ev.bind T (Ev.bind I (Ev.bind E (ev_pos (by trivial) ?_)))
  rw [hne]
  refine Ev.step (fun _ => rfl) ?_
  simp only [laws_FnExactSetAdd.j2]
  exact ev_neg (by decide) (Ev.bind (heldSpanS_ev 1 _ (by omega)) (ev_neg (by omega) (ev_pos rfl (ev_some rfl))))

end Go.Proofs.Ytfknjoebomicnaa.Pure
