/- A number is in a set once, whatever the order; joined sets have what either has, and no more. -/
import Derived.Test.YtgenohcnngomeaaDoorPFnSetsx8
import Derived.Test.YtgenohcnngomeaaDoorAid
import Derived.Lib.ItoaLen
namespace Go.Proofs.YtgenohcnngomeaaDoor.Pure
open Go Go.RowKit Go.Proofs.YtgenohcnngomeaaDoor.PFnSets Go.Proofs.YtgenohcnngomeaaDoorW.PrintWords Go.Proofs.YtgenohcnngomeaaDoorW.PrintLast Go.Proofs.YtgenohcnngomeaaDoorW.PrintMore Go.Proofs.YtgenohcnngomeaaDoor.Aid

theorem and255 (x : Int) : 0 ≤ Go.bits .and .i64 x 255 ∧ Go.bits .and .i64 x 255 ≤ 255 := by
  have h : (BitVec.ofInt 64 x).toNat &&& 255 ≤ 255 := Nat.and_le_right
  have e : Go.bits .and .i64 x 255 = (((BitVec.ofInt 64 x).toNat &&& 255 : Nat) : Int) :=
    wraps_i64 _ (Int.natCast_nonneg _) (Int.lt_of_le_of_lt (Int.ofNat_le.mpr h) (by decide))
  rw [e]
  omega
theorem l1Byte_is (l : List Int) (hl : l.length ≤ 281474976702464) (p : Nat) (hp : p ≤ l.length) (r : Int) : ∃ (v q : Nat) (s : Int), spec_l1Byte.f l p r = some ((v : Int), (q : Int), s) ∧ v ≤ 255 ∧ q ≤ l.length := by
  unfold spec_l1Byte.f
  by_cases h : (p : Int) < (l.length : Int)
  · rw [if_pos h, if_pos (by omega)]
    obtain ⟨h0, h1⟩ := and255 (wrap64 ((Go.bits .and .i64 (Go.bits .xor .i64 ((wrap64 ((wrap64 (r * 6364136223846793005)) + 1442695040888963407)) / 8589934592) ((wrap64 ((wrap64 (r * 6364136223846793005)) + 1442695040888963407)) / 35184372088832)) 255) + (wrap64 (rd l p))))
    obtain ⟨v, hv⟩ := Int.eq_ofNat_of_zero_le h0
    rw [hv] at h1 ⊢
    exact ⟨v, p + 1, _, by rw [wsucc (by omega)], by omega, by omega⟩
  · rw [if_neg h]
    obtain ⟨h0, h1⟩ := and255 (Go.bits .xor .i64 ((wrap64 ((wrap64 (r * 6364136223846793005)) + 1442695040888963407)) / 8589934592) ((wrap64 ((wrap64 (r * 6364136223846793005)) + 1442695040888963407)) / 35184372088832))
    obtain ⟨v, hv⟩ := Int.eq_ofNat_of_zero_le h0
    rw [hv] at h1 ⊢
    exact ⟨v, p, _, rfl, by omega, hp⟩
/-- A draw below a small number that is not none. -/
theorem l1Below_is (l : List Int) (hl : l.length ≤ 281474976702464) (p : Nat) (hp : p ≤ l.length) (r : Int) (n : Nat) (h0 : 0 < n) (h1 : n ≤ 256) :
    ∃ (v q : Nat) (s : Int), spec_l1Below.f l p r (n : Int) = some ((v : Int), (q : Int), s) ∧ v < n ∧ q ≤ l.length := by
  obtain ⟨v, q, s, e, hv, hq⟩ := l1Byte_is l hl p hp r
  refine ⟨v % n, q, s, ?_, Nat.mod_lt _ h0, hq⟩
  unfold spec_l1Below.f
  rw [if_neg (by omega), if_pos (by omega), e]
  simp only [Option.bind_some]
  rw [if_neg (by omega), Int.tmod_eq_emod_of_nonneg (by omega)]
  rfl
theorem l1New_at (l : List Int) (d : Nat) : ∀ (i : Nat) (x : Int), i + d = l.length → ∃ s, Ev (fun k => spec_l1New.l0 k l x (i : Int)) (l, 0, s) := by
  induction d with
  | zero =>
    intro i x hi
    refine ⟨x, Ev.step (fun _ => rfl) ?_⟩
    simp only [spec_l1New.l0]
    exact ev_neg (by omega) (ev_some rfl)
  | succ d ih =>
    intro i x hi
    by_cases h4 : i < 4000
    · obtain ⟨s, hs⟩ := ih (i + 1) (Go.bits .and .i64 (wrap64 ((wrap64 ((wrap64 (x * 131)) + (wrap64 (rd l i)))) + 7)) 1073741823) (by omega)
      refine ⟨s, Ev.step (fun _ => rfl) ?_⟩
      simp only [spec_l1New.l0]
      refine ev_pos (by omega) (ev_pos (by omega) (ev_pos (by omega) ?_))
      rw [wsucc (by omega)]
      exact hs
    · refine ⟨x, Ev.step (fun _ => rfl) ?_⟩
      simp only [spec_l1New.l0]
      exact ev_pos (by omega) (ev_neg (by omega) (ev_some rfl))
theorem l1New_ev (l : List Int) : ∃ s, Ev (fun k => spec_l1New.f k l) (l, 0, s) := l1New_at l l.length 0 _ (by omega)
theorem once_at (l : List Int) (hl : l.length ≤ 281474976702464) (p : Nat) (hp : p ≤ l.length) (r : Int) (n : Nat) (h0 : 0 < n) (h1 : n ≤ 256) :
    ∃ (b : Bool) (q : Nat) (s : Int), spec_l1Once.f l p r (n : Int) = some (b, (q : Int), s) ∧ q ≤ l.length := by
  obtain ⟨v, q, s, e, hv, hq⟩ := l1Below_is l hl p hp r n h0 h1
  refine ⟨((v : Int) == 0), q, s, ?_, hq⟩
  unfold spec_l1Once.f
  rw [e]
  rfl
theorem within_is (a b c : Int) : impl_within.f a b c = some (decide (b ≤ a ∧ a ≤ c)) := in_is a b c
theorem l1In_is (a b c : Int) : spec_l1In.f a b c = some (decide (b ≤ a ∧ a ≤ c)) := in_is a b c
theorem rdI_get {xs : List S49} {n : Nat} (h : n < xs.length) : rd_T49 xs (n : Int) = xs[n] := by
  unfold rd_T49
  rw [Int.toNat_natCast, List.getD_eq_getElem?_getD, List.getElem?_eq_getElem h]
  rfl
/-- Span i of a set and those behind it are right, as both texts ask it. -/
def setOkFrom (s : List S49) : Nat → Nat → Bool
  | 0, _ => true
  | d + 1, i =>
    if 0 ≤ (rd_T49 s (i : Int)).f0 ∧ (rd_T49 s (i : Int)).f0 ≤ 9999 then
      if (rd_T49 s (i : Int)).f0 ≤ (rd_T49 s (i : Int)).f1 ∧ (rd_T49 s (i : Int)).f1 ≤ 9999 then
        if 0 < i then
          if (rd_T49 s (i : Int)).f0 ≤ wrap64 ((rd_T49 s ((i - 1 : Nat) : Int)).f1 + 1) then false else setOkFrom s d (i + 1)
        else setOkFrom s d (i + 1)
      else false
    else false
def setOk (s : List S49) : Bool := setOkFrom s s.length 0
theorem spec_setOk_at (s : List S49) (hn : s.length ≤ 1048576) (d : Nat) : ∀ i : Nat, i + d = s.length → Ev (fun k => spec_SetOk.l0 k s (i : Int)) (setOkFrom s d i) := by
  induction d with
  | zero =>
    intro i hi
    refine Ev.step (fun _ => rfl) ?_
    simp only [spec_SetOk.l0]
    exact ev_neg (by omega) (ev_some rfl)
  | succ d ih =>
    intro i hi
    refine Ev.step (fun _ => rfl) ?_
    simp only [spec_SetOk.l0]
    unfold setOkFrom
    rw [wsucc (by omega)]
    refine ev_pos (by omega) (ev_pos (by omega) (ev_bind0 (l1In_is _ _ _) ?_))
    by_cases h1 : 0 ≤ (rd_T49 s (i : Int)).f0 ∧ (rd_T49 s (i : Int)).f0 ≤ 9999
    · rw [if_pos h1]
      refine ev_pos (decide_eq_true h1) (ev_bind0 (l1In_is _ _ _) ?_)
      by_cases h2 : (rd_T49 s (i : Int)).f0 ≤ (rd_T49 s (i : Int)).f1 ∧ (rd_T49 s (i : Int)).f1 ≤ 9999
      · rw [if_pos h2]
        refine ev_pos (decide_eq_true h2) ?_
        by_cases h3 : 0 < i
        · rw [if_pos h3, wpred h3 (by omega)]
          refine ev_pos (by omega) (ev_pos (by omega) (ev_pos (by omega) ?_))
          by_cases h4 : (rd_T49 s (i : Int)).f0 ≤ wrap64 ((rd_T49 s ((i - 1 : Nat) : Int)).f1 + 1)
          · rw [if_pos h4]
            exact ev_pos h4 (ev_some rfl)
          · rw [if_neg h4]
            exact ev_neg h4 (ih (i + 1) (by omega))
        · rw [if_neg h3]
          exact ev_neg (by omega) (ih (i + 1) (by omega))
      · rw [if_neg h2]
        exact ev_neg (by rw [decide_eq_false h2]; exact Bool.false_ne_true) (ev_some rfl)
    · rw [if_neg h1]
      exact ev_neg (by rw [decide_eq_false h1]; exact Bool.false_ne_true) (ev_some rfl)
theorem spec_setOk_ev (s : List S49) (hn : s.length ≤ 1048576) : Ev (fun k => spec_SetOk.f k s) (setOk s) := spec_setOk_at s hn s.length 0 (by omega)
theorem impl_setOk_at (s : List S49) (hn : s.length ≤ 1048576) (d : Nat) : ∀ i : Nat, i + d = s.length → Ev (fun k => impl_SetOk.l0 k s s (s.length : Int) (i : Int)) (setOkFrom s d i) := by
  induction d with
  | zero =>
    intro i hi
    refine Ev.step (fun _ => rfl) ?_
    simp only [impl_SetOk.l0]
    exact ev_neg (by omega) (ev_some rfl)
  | succ d ih =>
    intro i hi
    refine Ev.step (fun _ => rfl) ?_
    simp only [impl_SetOk.l0]
    unfold setOkFrom
    rw [wsucc (by omega)]
    refine ev_pos (by omega) (ev_pos (by omega) (ev_pos (by omega) (ev_bind0 (within_is _ _ _) ?_)))
    by_cases h1 : 0 ≤ (rd_T49 s (i : Int)).f0 ∧ (rd_T49 s (i : Int)).f0 ≤ 9999
    · rw [if_pos h1]
      refine ev_pos (decide_eq_true h1) (ev_bind0 (within_is _ _ _) ?_)
      by_cases h2 : (rd_T49 s (i : Int)).f0 ≤ (rd_T49 s (i : Int)).f1 ∧ (rd_T49 s (i : Int)).f1 ≤ 9999
      · rw [if_pos h2]
        refine ev_pos (decide_eq_true h2) ?_
        by_cases h3 : 0 < i
        · rw [if_pos h3, wpred h3 (by omega)]
          refine ev_pos (by omega) (ev_pos (by omega) (ev_pos (by omega) ?_))
          by_cases h4 : (rd_T49 s (i : Int)).f0 ≤ wrap64 ((rd_T49 s ((i - 1 : Nat) : Int)).f1 + 1)
          · rw [if_pos h4]
            exact ev_pos h4 (ev_some rfl)
          · rw [if_neg h4]
            exact ev_neg h4 (ih (i + 1) (by omega))
        · rw [if_neg h3]
          exact ev_neg (by omega) (ih (i + 1) (by omega))
      · rw [if_neg h2]
        exact ev_neg (by rw [decide_eq_false h2]; exact Bool.false_ne_true) (ev_some rfl)
    · rw [if_neg h1]
      exact ev_neg (by rw [decide_eq_false h1]; exact Bool.false_ne_true) (ev_some rfl)
theorem impl_setOk_ev (s : List S49) (hn : s.length ≤ 1048576) : Ev (fun k => impl_SetOk.f k s) (setOk s) := impl_setOk_at s hn s.length 0 (by omega)
theorem spec_setHas_at (s : List S49) (n : Int) (hn : s.length ≤ 1048576) (d : Nat) : ∀ (i : Nat), i + d = s.length →
    Ev (fun k => spec_SetHas.l0 k s n (i : Int)) ((s.drop i).any (impl_SetHas.has n)) := by
  induction d with
  | zero =>
    intro i hi
    refine Ev.step (fun _ => rfl) ?_
    simp only [spec_SetHas.l0]
    exact ev_neg (by omega) (ev_some (by rw [List.drop_eq_nil_of_le (by omega)]; rfl))
  | succ d ih =>
    intro i hi
    refine Ev.step (fun _ => rfl) ?_
    simp only [spec_SetHas.l0]
    rw [List.drop_eq_getElem_cons (show i < s.length by omega), List.any_cons, wsucc (by omega), rdI_get (show i < s.length by omega)]
    refine ev_pos (by omega) (ev_pos (by omega) (ev_bind0 (l1In_is _ _ _) ?_))
    have e : impl_SetHas.has n (s[i]'(by omega)) = decide ((s[i]'(by omega)).f0 ≤ n ∧ n ≤ (s[i]'(by omega)).f1) := by
      unfold impl_SetHas.has
      rw [Bool.decide_and]
    rw [e]
    by_cases h : (s[i]'(by omega)).f0 ≤ n ∧ n ≤ (s[i]'(by omega)).f1
    · rw [decide_eq_true h, Bool.true_or]
      exact ev_pos rfl (ev_some rfl)
    · rw [decide_eq_false h, Bool.false_or]
      exact ev_neg (by decide) (ih (i + 1) (by omega))
theorem spec_setHas_ev (s : List S49) (n : Int) (hn : s.length ≤ 1048576) : Ev (fun k => spec_SetHas.f k s n) (s.any (impl_SetHas.has n)) := spec_setHas_at s n hn s.length 0 (by omega)
/-! ### sets of numbers, told by spans -/
def hasN (s : List S49) (n : Int) : Prop := ∃ x ∈ s, x.f0 ≤ n ∧ n ≤ x.f1
/-- The spans rise, no two touch. -/
def Nrm : List S49 → Prop
  | [] => True
  | x :: s => x.f0 ≤ x.f1 ∧ (∀ y ∈ s, x.f1 + 1 < y.f0) ∧ Nrm s
theorem hasN_nil (n : Int) : ¬ hasN [] n := fun ⟨_, h, _⟩ => by cases h
theorem hasN_cons (x : S49) (s : List S49) (n : Int) : hasN (x :: s) n ↔ (x.f0 ≤ n ∧ n ≤ x.f1) ∨ hasN s n := by
  constructor
  · rintro ⟨z, hz, h⟩
    rcases List.mem_cons.1 hz with rfl | hz
    · exact .inl h
    · exact .inr ⟨z, hz, h⟩
  · rintro (h | ⟨z, hz, h⟩)
    · exact ⟨x, List.mem_cons_self, h⟩
    · exact ⟨z, List.mem_cons_of_mem _ hz, h⟩
theorem hasN_append (s t : List S49) (n : Int) : hasN (s ++ t) n ↔ hasN s n ∨ hasN t n := by
  induction s with
  | nil => simp [hasN_nil]
  | cons x s ih => rw [List.cons_append, hasN_cons, hasN_cons, ih, or_assoc]
theorem hasN_one (x : S49) (n : Int) : hasN [x] n ↔ x.f0 ≤ n ∧ n ≤ x.f1 := by
  rw [hasN_cons]
  exact ⟨fun h => h.elim id (fun h => absurd h (hasN_nil n)), .inl⟩
theorem nrm_append : ∀ (s t : List S49), Nrm (s ++ t) ↔ Nrm s ∧ Nrm t ∧ ∀ x ∈ s, ∀ y ∈ t, x.f1 + 1 < y.f0 := by
  intro s
  induction s with
  | nil => intro t; simp [Nrm]
  | cons x s ih =>
    intro t
    rw [List.cons_append]
    simp only [Nrm, ih t, List.mem_append, List.mem_cons]
    constructor
    · rintro ⟨h1, h2, h3, h4, h5⟩
      refine ⟨⟨h1, fun y hy => h2 y (.inl hy), h3⟩, h4, fun z hz y hy => ?_⟩
      rcases hz with rfl | hz
      · exact h2 y (.inr hy)
      · exact h5 z hz y hy
    · rintro ⟨⟨h1, h2, h3⟩, h4, h5⟩
      refine ⟨h1, fun y hy => ?_, h3, h4, fun z hz y hy => h5 z (.inr hz) y hy⟩
      rcases hy with hy | hy
      · exact h2 y hy
      · exact h5 x (.inl rfl) y hy
theorem nrm_one (x : S49) : Nrm [x] ↔ x.f0 ≤ x.f1 := by simp [Nrm]
theorem Nrm.le {s : List S49} (h : Nrm s) : ∀ x ∈ s, x.f0 ≤ x.f1 := by
  induction s with
  | nil => intro x hx; cases hx
  | cons y s ih =>
    intro x hx
    rcases List.mem_cons.1 hx with rfl | hx
    · exact h.1
    · exact ih h.2.2 x hx
theorem Nrm.head_le {x : S49} {s : List S49} (h : Nrm (x :: s)) {n : Int} (hn : hasN (x :: s) n) : x.f0 ≤ n := by
  rcases (hasN_cons x s n).1 hn with hn | ⟨z, hz, h1, h2⟩
  · exact hn.1
  · have := h.2.1 z hz
    have := h.1
    omega
theorem Nrm.gap {x : S49} {s : List S49} (h : Nrm (x :: s)) : ¬ hasN (x :: s) (x.f1 + 1) := by
  intro hn
  rcases (hasN_cons x s _).1 hn with hn | ⟨z, hz, h1, h2⟩
  · omega
  · have := h.2.1 z hz
    omega
theorem Nrm.tail_gt {x : S49} {s : List S49} (h : Nrm (x :: s)) {n : Int} (hn : hasN s n) : x.f1 + 1 < n := by
  obtain ⟨z, hz, h1, h2⟩ := hn
  have := h.2.1 z hz
  omega
theorem Nrm.uniq : ∀ (s t : List S49), Nrm s → Nrm t → (∀ n, hasN s n ↔ hasN t n) → s = t := by
  intro s
  induction s with
  | nil =>
    intro t hs ht h
    cases t with
    | nil => rfl
    | cons y t => exact absurd ((h y.f0).2 ⟨y, List.mem_cons_self, Int.le_refl _, ht.1⟩) (hasN_nil _)
  | cons x s ih =>
    intro t hs ht h
    cases t with
    | nil => exact absurd ((h x.f0).1 ⟨x, List.mem_cons_self, Int.le_refl _, hs.1⟩) (hasN_nil _)
    | cons y t =>
      have h0 : x.f0 = y.f0 := by
        have a := hs.head_le ((h y.f0).2 ⟨y, List.mem_cons_self, Int.le_refl _, ht.1⟩)
        have b := ht.head_le ((h x.f0).1 ⟨x, List.mem_cons_self, Int.le_refl _, hs.1⟩)
        omega
      have h1 : x.f1 = y.f1 := by
        have := hs.1
        have := ht.1
        by_cases a : x.f1 < y.f1
        · exact absurd ((h (x.f1 + 1)).2 ⟨y, List.mem_cons_self, by omega, by omega⟩) hs.gap
        · by_cases b : y.f1 < x.f1
          · exact absurd ((h (y.f1 + 1)).1 ⟨x, List.mem_cons_self, by omega, by omega⟩) ht.gap
          · omega
      have e : x = y := by
        cases x; cases y
        simp only at h0 h1
        rw [h0, h1]
      subst e
      congr 1
      refine ih t hs.2.2 ht.2.2 (fun n => ⟨fun hn => ?_, fun hn => ?_⟩)
      · have := hs.tail_gt hn
        rcases (hasN_cons x t n).1 ((h n).1 ((hasN_cons x s n).2 (.inr hn))) with h | h
        · omega
        · exact h
      · have := ht.tail_gt hn
        rcases (hasN_cons x s n).1 ((h n).2 ((hasN_cons x t n).2 (.inr hn))) with h | h
        · omega
        · exact h
/-- A span is put into a set: what is behind is still to come, what is ahead is told already. -/
def putL : List S49 → List S49 → Bool → S49 → List S49
  | [], out, done, x => if done then out else out ++ [x]
  | y :: r, out, done, x =>
    if y.f1 + 1 < x.f0 then putL r (out ++ [y]) done x
    else if x.f1 + 1 < y.f0 then putL r ((if done then out else out ++ [x]) ++ [y]) true x
    else putL r out done ⟨if x.f0 < y.f0 then x.f0 else y.f0, if x.f1 > y.f1 then x.f1 else y.f1⟩
theorem putL_ok (r : List S49) : ∀ (out : List S49) (done : Bool) (x : S49), Nrm r → Nrm out → x.f0 ≤ x.f1 → (done = false → ∀ o ∈ out, o.f1 + 1 < x.f0) → (∀ o ∈ out, ∀ y ∈ r, o.f1 + 1 < y.f0) → (done = true → ∀ y ∈ r, x.f1 + 1 < y.f0) →
    Nrm (putL r out done x) ∧ ∀ n, hasN (putL r out done x) n ↔ hasN out n ∨ hasN r n ∨ (done = false ∧ x.f0 ≤ n ∧ n ≤ x.f1) := by
  induction r with
  | nil =>
    intro out done x hr ho hx h1 h2 h3
    cases done with
    | true => exact ⟨ho, fun n => by simp [putL, hasN_nil]⟩
    | false =>
      refine ⟨(nrm_append _ _).2 ⟨ho, (nrm_one x).2 hx, fun o hm y hy => ?_⟩, fun n => ?_⟩
      · rw [List.mem_singleton.1 hy]
        exact h1 rfl o hm
      · simp [putL, hasN_nil, hasN_append, hasN_one]
  | cons y r ih =>
    intro out done x hr ho hx h1 h2 h3
    have hy := hr.1
    have hyr := hr.2.1
    simp only [putL]
    by_cases c1 : y.f1 + 1 < x.f0
    · rw [if_pos c1]
      have hd : done = false := by
        cases done with
        | false => rfl
        | true => have := h3 rfl y List.mem_cons_self; omega
      subst hd
      obtain ⟨e1, e2⟩ := ih (out ++ [y]) false x hr.2.2 ((nrm_append _ _).2 ⟨ho, (nrm_one y).2 hy, fun o hm z hz => by rw [List.mem_singleton.1 hz]; exact h2 o hm y List.mem_cons_self⟩) hx
        (fun _ o hm => by
          rcases List.mem_append.1 hm with hm | hm
          · exact h1 rfl o hm
          · rw [List.mem_singleton.1 hm]; exact c1)
        (fun o hm z hz => by
          rcases List.mem_append.1 hm with hm | hm
          · exact h2 o hm z (List.mem_cons_of_mem _ hz)
          · rw [List.mem_singleton.1 hm]; exact hyr z hz)
        (fun h => by cases h)
      refine ⟨e1, fun n => ?_⟩
      rw [e2 n, hasN_append, hasN_one, hasN_cons]
      constructor
      · rintro ((h | h) | h | h)
        · exact .inl h
        · exact .inr (.inl (.inl h))
        · exact .inr (.inl (.inr h))
        · exact .inr (.inr h)
      · rintro (h | (h | h) | h)
        · exact .inl (.inl h)
        · exact .inl (.inr h)
        · exact .inr (.inl h)
        · exact .inr (.inr h)
    · rw [if_neg c1]
      by_cases c2 : x.f1 + 1 < y.f0
      · rw [if_pos c2]
        have hbase : Nrm (if done then out else out ++ [x]) := by
          cases done with
          | true => exact ho
          | false => exact (nrm_append _ _).2 ⟨ho, (nrm_one x).2 hx, fun o hm z hz => by rw [List.mem_singleton.1 hz]; exact h1 rfl o hm⟩
        have hlt : ∀ o ∈ (if done then out else out ++ [x]), ∀ z ∈ y :: r, o.f1 + 1 < z.f0 := by
          intro o hm z hz
          cases done with
          | true => exact h2 o hm z hz
          | false =>
            rcases List.mem_append.1 hm with hm | hm
            · exact h2 o hm z hz
            · rw [List.mem_singleton.1 hm]
              rcases List.mem_cons.1 hz with rfl | hz
              · exact c2
              · have := hyr z hz; omega
        obtain ⟨e1, e2⟩ := ih ((if done then out else out ++ [x]) ++ [y]) true x hr.2.2 ((nrm_append _ _).2 ⟨hbase, (nrm_one y).2 hy, fun o hm z hz => by rw [List.mem_singleton.1 hz]; exact hlt o hm y List.mem_cons_self⟩) hx
          (fun h => by cases h)
          (fun o hm z hz => by
            rcases List.mem_append.1 hm with hm | hm
            · exact hlt o hm z (List.mem_cons_of_mem _ hz)
            · rw [List.mem_singleton.1 hm]; exact hyr z hz)
          (fun _ z hz => by have := hyr z hz; omega)
        refine ⟨e1, fun n => ?_⟩
        rw [e2 n, hasN_append, hasN_one, hasN_cons]
        have hb : hasN (if done then out else out ++ [x]) n ↔ hasN out n ∨ (done = false ∧ x.f0 ≤ n ∧ n ≤ x.f1) := by
          cases done with
          | true => simp
          | false => simp [hasN_append, hasN_one]
        rw [hb]
        constructor
        · rintro (((h | h) | h) | h | h)
          · exact .inl h
          · exact .inr (.inr h)
          · exact .inr (.inl (.inl h))
          · exact .inr (.inl (.inr h))
          · cases h.1
        · rintro (h | (h | h) | h)
          · exact .inl (.inl (.inl h))
          · exact .inl (.inr h)
          · exact .inr (.inl h)
          · exact .inl (.inl (.inr h))
      · rw [if_neg c2]
        have hd : done = false := by
          cases done with
          | false => rfl
          | true => exact absurd (h3 rfl y List.mem_cons_self) c2
        subst hd
        obtain ⟨e1, e2⟩ := ih out false ⟨if x.f0 < y.f0 then x.f0 else y.f0, if x.f1 > y.f1 then x.f1 else y.f1⟩ hr.2.2 ho (by simp only; split <;> split <;> omega)
          (fun _ o hm => by
            have := h1 rfl o hm
            have := h2 o hm y List.mem_cons_self
            simp only
            split <;> omega)
          (fun o hm z hz => h2 o hm z (List.mem_cons_of_mem _ hz))
          (fun h => by cases h)
        refine ⟨e1, fun n => ?_⟩
        rw [e2 n, hasN_cons]
        have hh : (((if x.f0 < y.f0 then x.f0 else y.f0) ≤ n ∧ n ≤ (if x.f1 > y.f1 then x.f1 else y.f1)) ↔ ((y.f0 ≤ n ∧ n ≤ y.f1) ∨ (x.f0 ≤ n ∧ n ≤ x.f1))) := by
          split <;> split <;> omega
        simp only [hh, true_and]
        constructor
        · rintro (h | h | h | h)
          · exact .inl h
          · exact .inr (.inl (.inr h))
          · exact .inr (.inl (.inl h))
          · exact .inr (.inr h)
        · rintro (h | (h | h) | h)
          · exact .inl h
          · exact .inr (.inr (.inl h))
          · exact .inr (.inl h)
          · exact .inr (.inr (.inr h))
/-- A span is put into a set. -/
def put (s : List S49) (x : S49) : List S49 := putL s [] false x
theorem put_ok {s : List S49} {x : S49} (hs : Nrm s) (hx : x.f0 ≤ x.f1) : Nrm (put s x) ∧ ∀ n, hasN (put s x) n ↔ hasN s n ∨ (x.f0 ≤ n ∧ n ≤ x.f1) := by
  obtain ⟨h1, h2⟩ := putL_ok s [] false x hs trivial hx (fun _ o ho => by cases ho) (fun o ho => by cases ho) (fun h => by cases h)
  exact ⟨h1, fun n => by rw [put, h2 n]; simp [hasN_nil]⟩
/-- Sets are joined span by span. -/
def joinL (a b : List S49) : List S49 := b.foldl put a
theorem joinL_ok (b : List S49) : ∀ a : List S49, Nrm a → (∀ x ∈ b, x.f0 ≤ x.f1) → Nrm (joinL a b) ∧ ∀ n, hasN (joinL a b) n ↔ hasN a n ∨ hasN b n := by
  induction b with
  | nil => intro a ha hb; exact ⟨ha, fun n => by simp [joinL, hasN_nil]⟩
  | cons x b ih =>
    intro a ha hb
    obtain ⟨p1, p2⟩ := put_ok ha (hb x List.mem_cons_self)
    obtain ⟨q1, q2⟩ := ih (put a x) p1 (fun y hy => hb y (List.mem_cons_of_mem _ hy))
    refine ⟨q1, fun n => ?_⟩
    rw [show joinL a (x :: b) = joinL (put a x) b from rfl, q2 n, p2 n, hasN_cons, or_assoc]
/-- What is sorted is told as a set: the last span told is widened, or a new one begins. -/
def unL : List S49 → List S49 → List S49
  | [], out => out
  | x :: r, out =>
    if h : 0 < out.length then
      if x.f0 ≤ (out[out.length - 1]'(by omega)).f1 + 1 then unL r (out.set (out.length - 1) ⟨(out[out.length - 1]'(by omega)).f0, if (out[out.length - 1]'(by omega)).f1 > x.f1 then (out[out.length - 1]'(by omega)).f1 else x.f1⟩)
      else unL r (out ++ [x])
    else unL r (out ++ [x])
theorem snoc_form (l : List S49) (h : 0 < l.length) : ∃ o z, l = o ++ [z] := by
  have hne : l ≠ [] := by intro e; subst e; simp at h
  exact ⟨l.dropLast, l.getLast hne, (List.dropLast_concat_getLast hne).symm⟩
theorem unL_ok (r : List S49) : ∀ (out : List S49), Nrm out → List.Pairwise (fun x y => x.f0 ≤ y.f0) r → (∀ x ∈ r, x.f0 ≤ x.f1) → (∀ o z, out = o ++ [z] → ∀ y ∈ r, z.f0 ≤ y.f0) →
    Nrm (unL r out) ∧ ∀ n, hasN (unL r out) n ↔ hasN out n ∨ hasN r n := by
  induction r with
  | nil => intro out ho hp hr hl; exact ⟨ho, fun n => by simp [unL, hasN_nil]⟩
  | cons x r ih =>
    intro out ho hp hr hl
    have hx := hr x List.mem_cons_self
    have hp1 := (List.pairwise_cons.1 hp).1
    have hp2 := (List.pairwise_cons.1 hp).2
    simp only [unL]
    by_cases h0 : 0 < out.length
    · obtain ⟨o, z, rfl⟩ := snoc_form out h0
      have hz : (o ++ [z])[(o ++ [z]).length - 1]'(by omega) = z := by simp
      have hset : ∀ v, (o ++ [z]).set ((o ++ [z]).length - 1) v = o ++ [v] := by
        intro v
        rw [List.length_append, List.length_singleton, Nat.add_sub_cancel, List.set_append_right _ _ (Nat.le_refl _), Nat.sub_self]
        rfl
      rw [dif_pos h0]
      simp only [hz, hset]
      obtain ⟨n1, n2, n3⟩ := (nrm_append o [z]).1 ho
      have hzx := hl o z rfl x List.mem_cons_self
      have hzz := (nrm_one z).1 n2
      by_cases c : x.f0 ≤ z.f1 + 1
      · rw [if_pos c]
        obtain ⟨e1, e2⟩ := ih (o ++ [⟨z.f0, if z.f1 > x.f1 then z.f1 else x.f1⟩]) ((nrm_append _ _).2 ⟨n1, (nrm_one _).2 (by simp only; split <;> omega), fun a ha b hb => by
            rw [List.mem_singleton.1 hb]; exact n3 a ha z (List.mem_singleton.2 rfl)⟩) hp2 (fun y hy => hr y (List.mem_cons_of_mem _ hy))
          (fun o' z' e y hy => by
            have := (List.append_inj_right' e rfl)
            simp only [List.cons.injEq, and_true] at this
            subst this
            have := hp1 y hy
            simp only
            omega)
        refine ⟨e1, fun n => ?_⟩
        rw [e2 n, hasN_append, hasN_append, hasN_one, hasN_one, hasN_cons]
        have hh : ((z.f0 ≤ n ∧ n ≤ (if z.f1 > x.f1 then z.f1 else x.f1)) ↔ ((z.f0 ≤ n ∧ n ≤ z.f1) ∨ (x.f0 ≤ n ∧ n ≤ x.f1))) := by
          split <;> omega
        simp only [hh, or_assoc]
      · rw [if_neg c]
        obtain ⟨e1, e2⟩ := ih (o ++ [z] ++ [x]) ((nrm_append _ _).2 ⟨ho, (nrm_one x).2 hx, fun a ha b hb => by
            rw [List.mem_singleton.1 hb]
            rcases List.mem_append.1 ha with ha | ha
            · have := n3 a ha z (List.mem_singleton.2 rfl); omega
            · rw [List.mem_singleton.1 ha]; omega⟩) hp2 (fun y hy => hr y (List.mem_cons_of_mem _ hy))
          (fun o' z' e y hy => by
            have := (List.append_inj_right' e rfl)
            simp only [List.cons.injEq, and_true] at this
            subst this
            exact hp1 y hy)
        refine ⟨e1, fun n => ?_⟩
        rw [e2 n, hasN_append, hasN_one, hasN_cons, or_assoc]
    · rw [dif_neg h0]
      have : out = [] := by
        cases out with
        | nil => rfl
        | cons a l => simp at h0
      subst this
      obtain ⟨e1, e2⟩ := ih ([] ++ [x]) ((nrm_one x).2 hx) hp2 (fun y hy => hr y (List.mem_cons_of_mem _ hy))
        (fun o' z' e y hy => by
          have := (List.append_inj_right' e rfl)
          simp only [List.cons.injEq, and_true] at this
          subst this
          exact hp1 y hy)
      refine ⟨e1, fun n => ?_⟩
      rw [e2 n, hasN_append, hasN_one, hasN_cons, or_assoc]
theorem hasN_perm {s t : List S49} (h : s.Perm t) (n : Int) : hasN s n ↔ hasN t n := ⟨fun ⟨x, hx, e⟩ => ⟨x, h.mem_iff.1 hx, e⟩, fun ⟨x, hx, e⟩ => ⟨x, h.mem_iff.2 hx, e⟩⟩
/-- Both ways to join tell one set. -/
theorem un_join {a b d : List S49} (ha : Nrm a) (hb : ∀ x ∈ b, x.f0 ≤ x.f1) (hd : d.Perm (a ++ b)) (hs : List.Pairwise (fun x y => x.f0 ≤ y.f0) d) : unL d [] = joinL a b := by
  obtain ⟨h1, h2⟩ := joinL_ok b a ha hb
  obtain ⟨h3, h4⟩ := unL_ok d [] trivial hs (fun x hx => by
    rcases List.mem_append.1 (hd.mem_iff.1 hx) with h | h
    · exact ha.le x h
    · exact hb x h) (fun o z e => by simp at e)
  refine Nrm.uniq _ _ h3 h1 (fun n => ?_)
  rw [h4 n, h2 n, hasN_perm hd, hasN_append]
  simp [hasN_nil]
/-! ### right sets: rising, apart, within 0..9999 -/
def Bd (s : List S49) : Prop := ∀ x ∈ s, 0 ≤ x.f0 ∧ x.f1 ≤ 9999
theorem nrm_iff : ∀ s : List S49, Nrm s ↔ ∀ (j : Nat) (hj : j < s.length), s[j].f0 ≤ s[j].f1 ∧ ∀ (hz : 0 < j), (s[j - 1]'(by omega)).f1 + 1 < s[j].f0 := by
  intro s
  induction s with
  | nil => exact ⟨fun _ j hj => absurd hj (by simp), fun _ => trivial⟩
  | cons x s ih =>
    constructor
    · rintro ⟨h1, h2, h3⟩ j hj
      cases j with
      | zero => exact ⟨h1, fun hz => absurd hz (by omega)⟩
      | succ j =>
        have hj' : j < s.length := by simpa using hj
        obtain ⟨g1, g2⟩ := (ih.1 h3) j hj'
        refine ⟨g1, fun _ => ?_⟩
        cases j with
        | zero => exact h2 _ (List.getElem_mem hj')
        | succ j => exact g2 (by omega)
    · intro h
      have hs : Nrm s := ih.2 (fun j hj => by
        obtain ⟨g1, g2⟩ := h (j + 1) (by simpa using hj)
        refine ⟨g1, fun hz => ?_⟩
        have := g2 (by omega)
        cases j with
        | zero => omega
        | succ j => exact this)
      refine ⟨(h 0 (by simp)).1, fun y hy => ?_, hs⟩
      cases s with
      | nil => cases hy
      | cons z s =>
        have hz := (h 1 (by simp)).2 (by omega)
        rcases List.mem_cons.1 hy with rfl | hy
        · exact hz
        · have h1 := hs.2.1 y hy
          have h2 := hs.1
          have hz' : x.f1 + 1 < z.f0 := hz
          omega
theorem setOkFrom_iff (s : List S49) (d : Nat) : ∀ i, i + d = s.length → (setOkFrom s d i = true ↔ ∀ (j : Nat) (hj : j < s.length), i ≤ j → (0 ≤ s[j].f0 ∧ s[j].f0 ≤ 9999) ∧ (s[j].f0 ≤ s[j].f1 ∧ s[j].f1 ≤ 9999) ∧ ∀ (hz : 0 < j), ¬ s[j].f0 ≤ wrap64 ((s[j - 1]'(by omega)).f1 + 1)) := by
  induction d with
  | zero => intro i hi; exact ⟨fun _ j hj hij => absurd hj (by omega), fun _ => rfl⟩
  | succ d ih =>
    intro i hi
    have hil : i < s.length := by omega
    unfold setOkFrom
    rw [rdI_get hil]
    have key : (∀ (j : Nat) (hj : j < s.length), i ≤ j → (0 ≤ s[j].f0 ∧ s[j].f0 ≤ 9999) ∧ (s[j].f0 ≤ s[j].f1 ∧ s[j].f1 ≤ 9999) ∧ ∀ (hz : 0 < j), ¬ s[j].f0 ≤ wrap64 ((s[j - 1]'(by omega)).f1 + 1)) ↔ ((0 ≤ s[i].f0 ∧ s[i].f0 ≤ 9999) ∧ (s[i].f0 ≤ s[i].f1 ∧ s[i].f1 ≤ 9999) ∧ ∀ (hz : 0 < i), ¬ s[i].f0 ≤ wrap64 ((s[i - 1]'(by omega)).f1 + 1)) ∧ setOkFrom s d (i + 1) = true := by
      rw [ih (i + 1) (by omega)]
      constructor
      · intro h
        exact ⟨h i hil (Nat.le_refl _), fun j hj hij => h j hj (by omega)⟩
      · rintro ⟨h1, h2⟩ j hj hij
        by_cases e : i = j
        · subst e; exact h1
        · exact h2 j hj (by omega)
    rw [key]
    by_cases h1 : 0 ≤ s[i].f0 ∧ s[i].f0 ≤ 9999
    · rw [if_pos h1]
      by_cases h2 : s[i].f0 ≤ s[i].f1 ∧ s[i].f1 ≤ 9999
      · rw [if_pos h2]
        by_cases h3 : 0 < i
        · rw [if_pos h3, rdI_get (show i - 1 < s.length by omega)]
          by_cases h4 : s[i].f0 ≤ wrap64 ((s[i - 1]'(by omega)).f1 + 1)
          · rw [if_pos h4]
            exact ⟨fun h => (by cases h), fun h => absurd h4 (h.1.2.2 h3)⟩
          · rw [if_neg h4]
            exact ⟨fun h => ⟨⟨h1, h2, fun _ => h4⟩, h⟩, fun h => h.2⟩
        · rw [if_neg h3]
          exact ⟨fun h => ⟨⟨h1, h2, fun hz => absurd hz h3⟩, h⟩, fun h => h.2⟩
      · rw [if_neg h2]
        exact ⟨fun h => (by cases h), fun h => absurd h.1.2.1 h2⟩
    · rw [if_neg h1]
      exact ⟨fun h => (by cases h), fun h => absurd h.1.1 h1⟩
theorem setOk_iff (s : List S49) : setOk s = true ↔ Nrm s ∧ Bd s := by
  unfold setOk
  rw [setOkFrom_iff s s.length 0 (by omega), nrm_iff]
  constructor
  · intro h
    have hb : Bd s := fun x hx => by
      obtain ⟨j, hj, rfl⟩ := List.getElem_of_mem hx
      have := h j hj (by omega)
      exact ⟨this.1.1, this.2.1.2⟩
    refine ⟨fun j hj => ⟨(h j hj (by omega)).2.1.1, fun hz => ?_⟩, hb⟩
    have h1 := (h j hj (by omega)).2.2 hz
    have h2 := h (j - 1) (by omega) (by omega)
    rw [w64 (by omega) (by omega)] at h1
    omega
  · rintro ⟨h, hb⟩ j hj _
    have h1 := hb _ (List.getElem_mem hj)
    have h2 := h j hj
    refine ⟨⟨h1.1, by omega⟩, ⟨h2.1, h1.2⟩, fun hz => ?_⟩
    have h3 := hb _ (List.getElem_mem (show j - 1 < s.length by omega))
    have h4 := h2.2 hz
    have h5 := (h (j - 1) (by omega)).1
    rw [w64 (by omega) (by omega)]
    omega
/-! ### impl.union: the spans sorted, then told as a set -/
theorem sortA_list (l : List S49) : (sortA l).toList.Perm l ∧ List.Pairwise (fun x y => x.f0 ≤ y.f0) (sortA l).toList := by
  obtain ⟨⟨h1, _, h3⟩, h4⟩ := sortA_ok l
  have e : (sortA l).size = l.toArray.size := h1
  refine ⟨?_, ?_⟩
  · rw [← e] at h3
    simp only [Array.extract_size] at h3
    rw [e] at h3
    simpa using h3
  · rw [List.pairwise_iff_getElem]
    intro i j hi hj hij
    have hi' : i < (sortA l).size := by simpa using hi
    have hj' : j < (sortA l).size := by simpa using hj
    have := h4 i j (Nat.zero_le _) hij (by omega)
    rw [sortCf_lt, getElem!_pos (sortA l) i hi', getElem!_pos (sortA l) j hj'] at this
    simp only [decide_eq_false_iff_not] at this
    simp only [Array.getElem_toList]
    omega
theorem mx_is (a b : Int) : mx a b = if a > b then a else b := by
  unfold mx
  split <;> split <;> omega
theorem union_at (d : List S49) (hb : ∀ x ∈ d, 0 ≤ x.f1 ∧ x.f1 ≤ 9999) (hd : d.length ≤ 2097152) (n : Nat) : ∀ (i : Nat) (out : List S49), i + n = d.length → out.length ≤ i → (∀ o ∈ out, 0 ≤ o.f1 ∧ o.f1 ≤ 9999) →
    Ev (fun k => impl_union.l0 k out d (d.length : Int) (i : Int)) (unL (d.drop i) out) := by
  induction n with
  | zero =>
    intro i out hi ho hob
    refine Ev.step (fun _ => rfl) ?_
    simp only [impl_union.l0]
    refine ev_neg (by omega) (ev_some ?_)
    rw [List.drop_of_length_le (by omega)]
    rfl
  | succ n ih =>
    intro i out hi ho hob
    have hil : i < d.length := by omega
    have hx := hb _ (List.getElem_mem hil)
    refine Ev.step (fun _ => rfl) ?_
    simp only [impl_union.l0]
    rw [List.drop_eq_getElem_cons hil, wsucc (by omega), rdI_get hil]
    refine ev_pos (by omega) (ev_pos (by omega) (ev_pos (by omega) ?_))
    have ap : Ev (fun k => if out.length < 8796093022208 then impl_union.l0 k (out ++ [(⟨d[i].f0, d[i].f1⟩ : S49)]) d (d.length : Int) ((i + 1 : Nat) : Int) else none) (unL (d.drop (i + 1)) (out ++ [d[i]])) :=
      ev_pos (by omega) (ih (i + 1) _ (by omega) (by simp; omega) (fun o h => by
        rcases List.mem_append.1 h with h | h
        · exact hob o h
        · rw [List.mem_singleton.1 h]; exact hx))
    by_cases h0 : 0 < out.length
    · have hz := hob _ (List.getElem_mem (show out.length - 1 < out.length by omega))
      simp only [unL]
      rw [dif_pos h0, wpred h0 (by omega), rdI_get (show out.length - 1 < out.length by omega), w64 (x := (out[out.length - 1]'(by omega)).f1 + 1) (by omega) (by omega), Int.toNat_natCast, mx_is]
      refine ev_pos (by omega) (ev_pos (by omega) (ev_pos (by omega) ?_))
      by_cases c : d[i].f0 ≤ (out[out.length - 1]'(by omega)).f1 + 1
      · rw [if_pos c]
        refine ev_pos c (ih (i + 1) _ (by omega) (by simp; omega) (fun o h => ?_))
        rcases List.mem_or_eq_of_mem_set h with h | h
        · exact hob o h
        · subst h
          simp only
          split <;> omega
      · rw [if_neg c]
        exact ev_neg c ap
    · simp only [unL]
      rw [dif_neg h0]
      exact ev_neg (by omega) ap
theorem impl_union_ev (l : List S49) (hl : l.length ≤ 2097152) (hb : ∀ x ∈ l, 0 ≤ x.f1 ∧ x.f1 ≤ 9999) : Ev (fun k => impl_union.f k l) (unL (sortA l).toList []) := by
  have hp := (sortA_list l).1
  have hlen := hp.length_eq
  unfold impl_union.f
  refine ev_bind0 (a := l) (by unfold impl_copySet.f; rw [if_pos (by simp; omega), List.nil_append]) ?_
  refine ev_bind0 (a := (sortA l).toList) (by unfold slices_SortFunc_impl_Span.f; rw [if_pos (by omega)]) ?_
  rw [← hlen]
  have := union_at (sortA l).toList (fun x hx => hb x (hp.mem_iff.1 hx)) (by omega) (sortA l).toList.length 0 [] (by omega) (by simp) (fun o h => by cases h)
  rw [List.drop_zero] at this
  exact this
theorem union_join {a b : List S49} (ha : Nrm a) (hA : Bd a) (hb : ∀ x ∈ b, x.f0 ≤ x.f1) (hB : Bd b) (hl : (a ++ b).length ≤ 2097152) : Ev (fun k => impl_union.f k (a ++ b)) (joinL a b) := by
  have h := impl_union_ev (a ++ b) hl (fun x hx => by
    rcases List.mem_append.1 hx with h | h
    · have := hA x h; have := ha.le x h; omega
    · have := hB x h; have := hb x h; omega)
  rwa [un_join ha hb (sortA_list _).1 (sortA_list _).2] at h
/-! ### spec.l5Put, spec.l5Join -/
theorem putL_len (r : List S49) : ∀ (out : List S49) (done : Bool) (x : S49), (putL r out done x).length ≤ out.length + r.length + (if done then 0 else 1) := by
  induction r with
  | nil => intro out done x; unfold putL; cases done <;> simp
  | cons y r ih =>
    intro out done x
    unfold putL
    split
    · have := ih (out ++ [y]) done x; simp only [List.length_append, List.length_cons, List.length_nil] at this ⊢; omega
    · split
      · have := ih ((if done then out else out ++ [x]) ++ [y]) true x
        cases done <;> simp only [List.length_append, List.length_cons, List.length_nil, if_true, if_false, Bool.false_eq_true] at this ⊢ <;> omega
      · have := ih out done ⟨if x.f0 < y.f0 then x.f0 else y.f0, if x.f1 > y.f1 then x.f1 else y.f1⟩; simp only [List.length_cons] at this ⊢; omega
theorem putL_bd (r : List S49) : ∀ (out : List S49) (done : Bool) (x : S49), Bd r → Bd out → (0 ≤ x.f0 ∧ x.f1 ≤ 9999) → Bd (putL r out done x) := by
  have ap : ∀ (l : List S49) (x : S49), Bd l → (0 ≤ x.f0 ∧ x.f1 ≤ 9999) → Bd (l ++ [x]) := fun l x hl hx z hz => by
    rcases List.mem_append.1 hz with h | h
    · exact hl z h
    · rw [List.mem_singleton.1 h]; exact hx
  induction r with
  | nil =>
    intro out done x _ ho hx
    unfold putL
    cases done
    · exact ap _ _ ho hx
    · exact ho
  | cons y r ih =>
    intro out done x hr ho hx
    have hy := hr y List.mem_cons_self
    have hr' : Bd r := fun z hz => hr z (List.mem_cons_of_mem _ hz)
    unfold putL
    split
    · exact ih _ _ _ hr' (ap _ _ ho hy) hx
    · split
      · refine ih _ _ _ hr' (ap _ _ ?_ hy) hx
        cases done
        · exact ap _ _ ho hx
        · exact ho
      · refine ih _ _ _ hr' ho ?_
        simp only
        constructor <;> split <;> omega
theorem spec_put_at (s : List S49) (hs : Bd s) (hle : ∀ x ∈ s, x.f0 ≤ x.f1) (hn : s.length ≤ 2097152) (d : Nat) : ∀ (i : Nat) (out : List S49) (done : Bool) (x : S49), i + d = s.length → out.length ≤ 2 * i → (0 ≤ x.f0 ∧ x.f1 ≤ 9999 ∧ x.f0 ≤ x.f1) →
    Ev (fun k => spec_l5Put.l0 k s out done (i : Int) x.f0 x.f1) (putL (s.drop i) out done x) := by
  induction d with
  | zero =>
    intro i out done x hi ho hx
    refine Ev.step (fun _ => rfl) ?_
    simp only [spec_l5Put.l0]
    rw [List.drop_of_length_le (by omega)]
    refine ev_neg (by omega) ?_
    unfold putL
    cases done
    · exact ev_neg (by decide) (ev_pos (by omega) (ev_some rfl))
    · exact ev_pos rfl (ev_some rfl)
  | succ d ih =>
    intro i out done x hi ho hx
    have hil : i < s.length := by omega
    have hy := hs _ (List.getElem_mem hil)
    have hyl := hle _ (List.getElem_mem hil)
    refine Ev.step (fun _ => rfl) ?_
    simp only [spec_l5Put.l0]
    rw [List.drop_eq_getElem_cons hil, wsucc (by omega), rdI_get hil, w64 (x := s[i].f1 + 1) (by omega) (by omega), w64 (x := x.f1 + 1) (by omega) (by omega)]
    unfold putL
    refine ev_pos (by omega) (ev_pos (by omega) ?_)
    by_cases c1 : s[i].f1 + 1 < x.f0
    · rw [if_pos c1]
      exact ev_pos c1 (ev_pos (by omega) (ih (i + 1) _ done x (by omega) (by simp; omega) hx))
    · rw [if_neg c1]
      refine ev_neg c1 ?_
      by_cases c2 : x.f1 + 1 < s[i].f0
      · rw [if_pos c2]
        refine ev_pos (by omega) ?_
        cases done
        · refine ev_neg (by decide) (ev_pos (by omega) (ev_bind0 rfl (ev_pos (by simp; omega) ?_)))
          exact ih (i + 1) (out ++ [x] ++ [s[i]]) true x (by omega) (by simp; omega) hx
        · exact ev_pos rfl (ev_pos (by omega) (ih (i + 1) _ true x (by omega) (by simp; omega) hx))
      · rw [if_neg c2]
        refine ev_neg (by omega) (ev_bind0 (a := if x.f0 < s[i].f0 then x.f0 else s[i].f0) (by unfold spec_l1Min.f; split <;> rfl) (ev_bind0 (a := if x.f1 > s[i].f1 then x.f1 else s[i].f1) (by unfold spec_l1Max.f; split <;> rfl) ?_))
        refine ih (i + 1) out done ⟨if x.f0 < s[i].f0 then x.f0 else s[i].f0, if x.f1 > s[i].f1 then x.f1 else s[i].f1⟩ (by omega) (by omega) ?_
        simp only
        refine ⟨?_, ?_, ?_⟩ <;> repeat' split
        all_goals omega
theorem spec_put_ev (s : List S49) (x : S49) (hs : Bd s) (hn : Nrm s) (hl : s.length ≤ 2097152) (hx : 0 ≤ x.f0 ∧ x.f1 ≤ 9999 ∧ x.f0 ≤ x.f1) : Ev (fun k => spec_l5Put.f k s x.f0 x.f1) (put s x) := by
  unfold spec_l5Put.f put
  have := spec_put_at s hs hn.le hl s.length 0 [] false x (by omega) (by simp) hx
  rw [List.drop_zero] at this
  exact this
theorem put_len (s : List S49) (x : S49) : (put s x).length ≤ s.length + 1 := by
  have := putL_len s [] false x
  unfold put
  simp at this
  omega
theorem put_bd {s : List S49} {x : S49} (hs : Bd s) (hx : 0 ≤ x.f0 ∧ x.f1 ≤ 9999) : Bd (put s x) := putL_bd s [] false x hs (fun _ h => by cases h) hx
theorem spec_join_at (b : List S49) (hb : Bd b) (hbl : ∀ x ∈ b, x.f0 ≤ x.f1) (hn : b.length ≤ 1048576) (d : Nat) : ∀ (i : Nat) (a : List S49), i + d = b.length → Bd a → Nrm a → a.length ≤ 1048576 + i →
    Ev (fun k => spec_l5Join.l0 k b a (i : Int)) (joinL a (b.drop i)) := by
  induction d with
  | zero =>
    intro i a hi ha han hal
    refine Ev.step (fun _ => rfl) ?_
    simp only [spec_l5Join.l0]
    rw [List.drop_of_length_le (by omega)]
    exact ev_neg (by omega) (ev_some rfl)
  | succ d ih =>
    intro i a hi ha han hal
    have hil : i < b.length := by omega
    have hy := hb _ (List.getElem_mem hil)
    have hyl := hbl _ (List.getElem_mem hil)
    refine Ev.step (fun _ => rfl) ?_
    simp only [spec_l5Join.l0]
    rw [List.drop_eq_getElem_cons hil, wsucc (by omega), rdI_get hil]
    refine ev_pos (by omega) (ev_pos (by omega) (Ev.bind (spec_put_ev a b[i] ha han (by omega) ⟨hy.1, hy.2, hyl⟩) ?_))
    have hl := put_len a b[i]
    exact ih (i + 1) (put a b[i]) (by omega) (put_bd ha hy) (put_ok han hyl).1 (by omega)
theorem spec_join_ev (a b : List S49) (ha : Bd a) (han : Nrm a) (hal : a.length ≤ 1048576) (hb : Bd b) (hbl : ∀ x ∈ b, x.f0 ≤ x.f1) (hn : b.length ≤ 1048576) : Ev (fun k => spec_l5Join.f k a b) (joinL a b) := by
  unfold spec_l5Join.f
  refine ev_bind0 (a := a) (by unfold spec_l5Copy.f; rw [Option.bind_some, if_pos (by simp; omega), List.nil_append]) ?_
  have := spec_join_at b hb hbl hn b.length 0 a (by omega) ha han (by omega)
  rw [List.drop_zero] at this
  exact this
theorem join_len (b : List S49) : ∀ a : List S49, (joinL a b).length ≤ a.length + b.length := by
  induction b with
  | nil => intro a; simp [joinL]
  | cons x b ih =>
    intro a
    have h1 := ih (put a x)
    have h2 := put_len a x
    rw [show joinL a (x :: b) = joinL (put a x) b from rfl, List.length_cons]
    omega
theorem join_bd (b : List S49) : ∀ a : List S49, Bd a → Bd b → Bd (joinL a b) := by
  induction b with
  | nil => intro a ha _; exact ha
  | cons x b ih =>
    intro a ha hb
    exact ih (put a x) (put_bd ha (hb x List.mem_cons_self)) (fun y hy => hb y (List.mem_cons_of_mem _ hy))
/-- What SetJoin comes to. -/
def joinV (a b : List S49) : List S49 × Bool := if setOk a = true ∧ setOk b = true then (joinL a b, true) else ([], false)
theorem spec_setJoin_ev (a b : List S49) (ha : a.length ≤ 1048576) (hb : b.length ≤ 1048576) : Ev (fun k => spec_SetJoin.f k a b) (joinV a b) := by
  unfold spec_SetJoin.f joinV
  refine Ev.bind (spec_setOk_ev a ha) ?_
  by_cases h1 : setOk a = true
  · refine ev_pos h1 (Ev.bind (spec_setOk_ev b hb) ?_)
    by_cases h2 : setOk b = true
    · rw [if_pos ⟨h1, h2⟩]
      obtain ⟨n1, b1⟩ := (setOk_iff a).1 h1
      obtain ⟨n2, b2⟩ := (setOk_iff b).1 h2
      exact ev_pos h2 (Ev.bind (spec_join_ev a b b1 n1 ha b2 n2.le hb) (ev_some rfl))
    · rw [if_neg (fun h => h2 h.2)]
      exact ev_neg h2 (ev_some rfl)
  · rw [if_neg (fun h => h1 h.1)]
    exact ev_neg h1 (ev_some rfl)
theorem impl_setJoin_ev (a b : List S49) (ha : a.length ≤ 1048576) (hb : b.length ≤ 1048576) : Ev (fun k => impl_SetJoin.f k a b) (joinV a b) := by
  unfold impl_SetJoin.f joinV
  have bad : ∀ v : Bool, v = true → Ev (fun k => impl_SetJoin.j0 k a b v) (([], false) : List S49 × Bool) := fun v hv => by
    refine Ev.step (fun _ => rfl) ?_
    simp only [impl_SetJoin.j0]
    exact ev_pos hv (ev_some rfl)
  refine Ev.bind (impl_setOk_ev a ha) ?_
  by_cases h1 : setOk a = true
  · refine ev_pos h1 (Ev.bind (impl_setOk_ev b hb) ?_)
    by_cases h2 : setOk b = true
    · rw [if_pos ⟨h1, h2⟩, h2]
      obtain ⟨n1, b1⟩ := (setOk_iff a).1 h1
      obtain ⟨n2, b2⟩ := (setOk_iff b).1 h2
      refine Ev.step (fun _ => rfl) ?_
      simp only [impl_SetJoin.j0]
      refine ev_neg (by decide) (ev_bind0 (a := a) (by unfold impl_copySet.f; rw [if_pos (by simp; omega), List.nil_append]) (ev_pos (by omega) ?_))
      exact Ev.bind (union_join n1 b1 n2.le b2 (by rw [List.length_append]; omega)) (ev_some rfl)
    · rw [if_neg (fun h => h2 h.2)]
      exact bad _ (by rw [Bool.not_eq_true] at h2; rw [h2]; rfl)
  · rw [if_neg (fun h => h1 h.1)]
    exact ev_neg h1 (bad true rfl)
theorem joinV_len (a b : List S49) : (joinV a b).1.length ≤ a.length + b.length := by
  unfold joinV
  split
  · exact join_len b a
  · simp
/-- What SetAdd comes to. -/
def addV (s : List S49) (n : Int) : List S49 × Bool := if setOk s = true ∧ (0 ≤ n ∧ n ≤ 9999) ∧ s.any (impl_SetHas.has n) = false then (put s ⟨n, n⟩, true) else (s, false)
theorem spec_setAdd_ev (s : List S49) (n : Int) (hs : s.length ≤ 1048576) : Ev (fun k => spec_SetAdd.f k s n) (addV s n) := by
  have bad : ∀ v : Bool, v = true → Ev (fun k => spec_SetAdd.j0 k s n v) (s, false) := fun v hv => by
    refine Ev.step (fun _ => rfl) ?_
    simp only [spec_SetAdd.j0]
    exact ev_pos hv (ev_bind0 (a := s) (by unfold spec_l5Copy.f; rw [Option.bind_some, if_pos (by simp; omega), List.nil_append]) (ev_some rfl))
  unfold spec_SetAdd.f addV
  refine Ev.bind (spec_setOk_ev s hs) ?_
  by_cases h1 : setOk s = true
  · refine ev_pos h1 (ev_bind0 (l1In_is _ _ _) ?_)
    by_cases h2 : 0 ≤ n ∧ n ≤ 9999
    · refine ev_pos (decide_eq_true h2) (Ev.bind (spec_setHas_ev s n hs) ?_)
      cases h3 : s.any (impl_SetHas.has n) with
      | true =>
        rw [if_neg (fun h => by cases h.2.2)]
        exact bad true rfl
      | false =>
        rw [if_pos ⟨h1, h2, rfl⟩]
        obtain ⟨n1, b1⟩ := (setOk_iff s).1 h1
        refine Ev.step (fun _ => rfl) ?_
        simp only [spec_SetAdd.j0]
        exact ev_neg (by decide) (Ev.bind (spec_put_ev s ⟨n, n⟩ b1 n1 (by omega) ⟨h2.1, h2.2, Int.le_refl _⟩) (ev_some rfl))
    · rw [if_neg (fun h => h2 h.2.1)]
      exact ev_neg (by rw [decide_eq_false h2]; exact Bool.false_ne_true) (bad true rfl)
  · rw [if_neg (fun h => h1 h.1)]
    exact ev_neg h1 (bad true rfl)
theorem impl_setAdd_ev (s : List S49) (n : Int) (hs : s.length ≤ 1048576) : Ev (fun k => impl_SetAdd.f k s n) (addV s n) := by
  have bad : ∀ v : Bool, v = true → Ev (fun k => impl_SetAdd.j0 k s n v) (s, false) := fun v hv => by
    refine Ev.step (fun _ => rfl) ?_
    simp only [impl_SetAdd.j0]
    exact ev_pos hv (ev_bind0 (a := s) (by unfold impl_copySet.f; rw [if_pos (by simp; omega), List.nil_append]) (ev_some rfl))
  unfold impl_SetAdd.f addV
  refine Ev.bind (impl_setOk_ev s hs) ?_
  by_cases h1 : setOk s = true
  · refine ev_pos h1 (ev_bind0 (within_is _ _ _) ?_)
    by_cases h2 : 0 ≤ n ∧ n ≤ 9999
    · refine ev_pos (decide_eq_true h2) (ev_bind0 rfl ?_)
      cases h3 : s.any (impl_SetHas.has n) with
      | true =>
        rw [if_neg (fun h => by cases h.2.2)]
        exact bad true rfl
      | false =>
        rw [if_pos ⟨h1, h2, rfl⟩]
        obtain ⟨n1, b1⟩ := (setOk_iff s).1 h1
        refine Ev.step (fun _ => rfl) ?_
        simp only [impl_SetAdd.j0]
        refine ev_neg (by decide) (ev_bind0 (a := s) (by unfold impl_copySet.f; rw [if_pos (by simp; omega), List.nil_append]) (ev_pos (by omega) ?_))
        have h := union_join n1 b1 (b := [⟨n, n⟩]) (fun x hx => by rw [List.mem_singleton.1 hx]; exact Int.le_refl _) (fun x hx => by rw [List.mem_singleton.1 hx]; exact h2) (by simp; omega)
        exact Ev.bind h (ev_some rfl)
    · rw [if_neg (fun h => h2 h.2.1)]
      exact ev_neg (by rw [decide_eq_false h2]; exact Bool.false_ne_true) (bad true rfl)
  · rw [if_neg (fun h => h1 h.1)]
    exact ev_neg h1 (bad true rfl)
theorem addV_len (s : List S49) (n : Int) : (addV s n).1.length ≤ s.length + 1 := by
  unfold addV
  split
  · exact put_len s _
  · simp
def sizeFrom (s : List S49) : Nat → Nat → Int → Int
  | 0, _, n => n
  | d + 1, i, n => sizeFrom s d (i + 1) (wrap64 (n + (rd_T49 s (i : Int)).f1 - (rd_T49 s (i : Int)).f0 + 1))
def setSize (s : List S49) : Int := if setOk s = true then sizeFrom s s.length 0 0 else 0
theorem impl_size_at (s : List S49) (hn : s.length ≤ 1048576) (d : Nat) : ∀ (i : Nat) (n : Int), i + d = s.length → Ev (fun k => impl_SetSize.l0 k n s (s.length : Int) (i : Int)) (sizeFrom s d i n) := by
  induction d with
  | zero =>
    intro i n hi
    refine Ev.step (fun _ => rfl) ?_
    simp only [impl_SetSize.l0]
    exact ev_neg (by omega) (ev_some rfl)
  | succ d ih =>
    intro i n hi
    refine Ev.step (fun _ => rfl) ?_
    simp only [impl_SetSize.l0]
    refine ev_pos (by omega) (ev_pos (by omega) (ev_pos (by omega) ?_))
    rw [wsucc (by omega)]
    have e : wrap64 (n + wrap64 (wrap64 ((rd_T49 s (i : Int)).f1 - (rd_T49 s (i : Int)).f0) + 1)) = wrap64 (n + (rd_T49 s (i : Int)).f1 - (rd_T49 s (i : Int)).f0 + 1) := by
      unfold wrap64
      omega
    rw [e]
    exact ih (i + 1) _ (by omega)
theorem impl_setSize_ev (s : List S49) (hn : s.length ≤ 1048576) : Ev (fun k => impl_SetSize.f k s) (setSize s) := by
  unfold impl_SetSize.f setSize
  refine Ev.bind (impl_setOk_ev s hn) ?_
  by_cases h : setOk s = true
  · rw [if_pos h]
    exact ev_pos h (impl_size_at s hn s.length 0 0 (by omega))
  · rw [if_neg h]
    exact ev_neg h (ev_some rfl)
/-- Span x and those of b from j on have no number in common. -/
def apart1 (x : S49) (b : List S49) : Nat → Nat → Bool
  | 0, _ => true
  | d + 1, j =>
    if x.f0 ≤ (rd_T49 b (j : Int)).f1 then
      if (rd_T49 b (j : Int)).f0 ≤ x.f1 then false else apart1 x b d (j + 1)
    else apart1 x b d (j + 1)
def apartFrom (a b : List S49) : Nat → Nat → Bool
  | 0, _ => true
  | d + 1, i => apart1 (rd_T49 a (i : Int)) b b.length 0 && apartFrom a b d (i + 1)
def setApart (a b : List S49) : Bool := setOk a && setOk b && apartFrom a b a.length 0
theorem spec_apart1_at (a b : List S49) (ha : a.length ≤ 1048576) (hb : b.length ≤ 1048576) (i : Nat) (hi : i < a.length) (r : Bool) (d : Nat) : ∀ j : Nat, j + d = b.length →
    (apart1 (rd_T49 a (i : Int)) b d j = true → Ev (fun k => spec_SetApart.l0 k a b ((i + 1 : Nat) : Int)) r) → (apart1 (rd_T49 a (i : Int)) b d j = false → r = false) → Ev (fun k => spec_SetApart.l1 k a b (i : Int) (j : Int)) r := by
  induction d with
  | zero =>
    intro j hj h1 _
    refine Ev.step (fun _ => rfl) ?_
    simp only [spec_SetApart.l1]
    refine ev_neg (by omega) ?_
    rw [wsucc (by omega)]
    exact h1 rfl
  | succ d ih =>
    intro j hj h1 h2
    refine Ev.step (fun _ => rfl) ?_
    simp only [spec_SetApart.l1]
    rw [wsucc (by omega)]
    unfold apart1 at h1 h2
    refine ev_pos (by omega) (ev_pos (by omega) (ev_pos (by omega) (ev_pos (by omega) ?_)))
    by_cases c : (rd_T49 a (i : Int)).f0 ≤ (rd_T49 b (j : Int)).f1
    · rw [if_pos c] at h1 h2
      refine ev_pos c ?_
      by_cases e : (rd_T49 b (j : Int)).f0 ≤ (rd_T49 a (i : Int)).f1
      · rw [if_pos e] at h1 h2
        exact ev_pos e (ev_some (h2 rfl).symm)
      · rw [if_neg e] at h1 h2
        exact ev_neg e (ih (j + 1) (by omega) h1 h2)
    · rw [if_neg c] at h1 h2
      exact ev_neg c (ih (j + 1) (by omega) h1 h2)
theorem spec_apart_at (a b : List S49) (ha : a.length ≤ 1048576) (hb : b.length ≤ 1048576) (d : Nat) : ∀ i : Nat, i + d = a.length → Ev (fun k => spec_SetApart.l0 k a b (i : Int)) (apartFrom a b d i) := by
  induction d with
  | zero =>
    intro i hi
    refine Ev.step (fun _ => rfl) ?_
    simp only [spec_SetApart.l0]
    exact ev_neg (by omega) (ev_some rfl)
  | succ d ih =>
    intro i hi
    refine Ev.step (fun _ => rfl) ?_
    simp only [spec_SetApart.l0]
    refine ev_pos (by omega) ?_
    unfold apartFrom
    refine spec_apart1_at a b ha hb i (by omega) _ b.length 0 (by omega) (fun h => ?_) (fun h => ?_)
    · rw [h, Bool.true_and]
      exact ih (i + 1) (by omega)
    · rw [h, Bool.false_and]
theorem impl_apart1_at (a b : List S49) (ha : a.length ≤ 1048576) (hb : b.length ≤ 1048576) (i : Nat) (hi : i < a.length) (r : Bool) (d : Nat) : ∀ j : Nat, j + d = b.length →
    (apart1 (rd_T49 a (i : Int)) b d j = true → Ev (fun k => impl_SetApart.l0 k b a (a.length : Int) ((i + 1 : Nat) : Int)) r) → (apart1 (rd_T49 a (i : Int)) b d j = false → r = false) →
    Ev (fun k => impl_SetApart.l1 k b a (a.length : Int) (i : Int) b (b.length : Int) (j : Int) (rd_T49 a (i : Int)).f0 (rd_T49 a (i : Int)).f1) r := by
  induction d with
  | zero =>
    intro j hj h1 _
    refine Ev.step (fun _ => rfl) ?_
    simp only [impl_SetApart.l1]
    refine ev_neg (by omega) ?_
    rw [wsucc (by omega)]
    exact h1 rfl
  | succ d ih =>
    intro j hj h1 h2
    refine Ev.step (fun _ => rfl) ?_
    simp only [impl_SetApart.l1]
    rw [wsucc (by omega)]
    unfold apart1 at h1 h2
    refine ev_pos (by omega) (ev_pos (by omega) (ev_pos (by omega) ?_))
    by_cases c : (rd_T49 a (i : Int)).f0 ≤ (rd_T49 b (j : Int)).f1
    · rw [if_pos c] at h1 h2
      refine ev_pos c ?_
      by_cases e : (rd_T49 b (j : Int)).f0 ≤ (rd_T49 a (i : Int)).f1
      · rw [if_pos e] at h1 h2
        exact ev_pos e (ev_some (h2 rfl).symm)
      · rw [if_neg e] at h1 h2
        exact ev_neg e (ih (j + 1) (by omega) h1 h2)
    · rw [if_neg c] at h1 h2
      exact ev_neg c (ih (j + 1) (by omega) h1 h2)
theorem impl_apart_at (a b : List S49) (ha : a.length ≤ 1048576) (hb : b.length ≤ 1048576) (d : Nat) : ∀ i : Nat, i + d = a.length → Ev (fun k => impl_SetApart.l0 k b a (a.length : Int) (i : Int)) (apartFrom a b d i) := by
  induction d with
  | zero =>
    intro i hi
    refine Ev.step (fun _ => rfl) ?_
    simp only [impl_SetApart.l0]
    exact ev_neg (by omega) (ev_some rfl)
  | succ d ih =>
    intro i hi
    refine Ev.step (fun _ => rfl) ?_
    simp only [impl_SetApart.l0]
    refine ev_pos (by omega) (ev_pos (by omega) (ev_pos (by omega) ?_))
    unfold apartFrom
    refine impl_apart1_at a b ha hb i (by omega) _ b.length 0 (by omega) (fun h => ?_) (fun h => ?_)
    · rw [h, Bool.true_and]
      exact ih (i + 1) (by omega)
    · rw [h, Bool.false_and]
theorem spec_setApart_ev (a b : List S49) (ha : a.length ≤ 1048576) (hb : b.length ≤ 1048576) : Ev (fun k => spec_SetApart.f k a b) (setApart a b) := by
  unfold spec_SetApart.f setApart
  refine Ev.bind (spec_setOk_ev a ha) ?_
  cases h : setOk a with
  | false =>
    refine ev_neg (by simp) (Ev.step (fun _ => rfl) ?_)
    simp only [spec_SetApart.j0]
    exact ev_pos (by trivial) (ev_some rfl)
  | true =>
    refine ev_pos rfl (Ev.bind (spec_setOk_ev b hb) (Ev.step (fun _ => rfl) ?_))
    simp only [spec_SetApart.j0]
    cases h2 : setOk b with
    | false => exact ev_pos (by trivial) (ev_some rfl)
    | true => exact ev_neg (by simp) (spec_apart_at a b ha hb a.length 0 (by omega))
theorem impl_setApart_ev (a b : List S49) (ha : a.length ≤ 1048576) (hb : b.length ≤ 1048576) : Ev (fun k => impl_SetApart.f k a b) (setApart a b) := by
  unfold impl_SetApart.f setApart
  refine Ev.bind (impl_setOk_ev a ha) ?_
  cases h : setOk a with
  | false =>
    refine ev_neg (by simp) (Ev.step (fun _ => rfl) ?_)
    simp only [impl_SetApart.j0]
    exact ev_pos (by trivial) (ev_some rfl)
  | true =>
    refine ev_pos rfl (Ev.bind (impl_setOk_ev b hb) (Ev.step (fun _ => rfl) ?_))
    simp only [impl_SetApart.j0]
    cases h2 : setOk b with
    | false => exact ev_pos (by trivial) (ev_some rfl)
    | true => exact ev_neg (by simp) (impl_apart_at a b ha hb a.length 0 (by omega))
/-! ### how many numbers a set has -/
def hasB (s : List S49) (n : Nat) : Bool := s.any (impl_SetHas.has (n : Int))
theorem any_has (s : List S49) (n : Int) : s.any (impl_SetHas.has n) = true ↔ hasN s n := by
  unfold hasN impl_SetHas.has
  rw [List.any_eq_true]
  constructor
  · rintro ⟨x, hx, h⟩
    rw [Bool.and_eq_true, decide_eq_true_iff, decide_eq_true_iff] at h
    exact ⟨x, hx, h⟩
  · rintro ⟨x, hx, h⟩
    exact ⟨x, hx, by rw [Bool.and_eq_true, decide_eq_true_iff, decide_eq_true_iff]; exact h⟩
theorem hasB_iff (s : List S49) (n : Nat) : hasB s n = true ↔ hasN s (n : Int) := any_has s n
def card (p : Nat → Bool) : Nat := (List.range 10000).countP p
theorem countP_both (p q : Nat → Bool) (l : List Nat) : l.countP (fun k => p k || q k) + l.countP (fun k => p k && q k) = l.countP p + l.countP q := by
  induction l with
  | nil => rfl
  | cons x l ih =>
    simp only [List.countP_cons]
    cases p x <;> cases q x <;> simp <;> omega
theorem countP_same (p q : Nat → Bool) (l : List Nat) (h : ∀ k ∈ l, p k = q k) : l.countP p = l.countP q := by
  induction l with
  | nil => rfl
  | cons x l ih => rw [List.countP_cons, List.countP_cons, ih (fun k hk => h k (List.mem_cons_of_mem _ hk)), h x List.mem_cons_self]
theorem countP_span (a b : Nat) (N : Nat) : (List.range N).countP (fun k => decide (a ≤ k) && decide (k ≤ b)) = min N (b + 1) - min N a := by
  induction N with
  | zero => simp
  | succ N ih =>
    rw [List.range_succ, List.countP_append, ih, List.countP_cons, List.countP_nil]
    by_cases h1 : a ≤ N <;> by_cases h2 : N ≤ b <;> simp [h1, h2] <;> omega
theorem card_one (a b : Nat) (hab : a ≤ b) (hb : b ≤ 9999) : card (fun k => decide (a ≤ k) && decide (k ≤ b)) = b + 1 - a := by
  unfold card
  rw [countP_span]
  omega
def sumW : List S49 → Int
  | [] => 0
  | x :: s => (x.f1 - x.f0 + 1) + sumW s
theorem sumW_card (s : List S49) (hs : Nrm s) (hb : Bd s) : sumW s = ((card (hasB s) : Nat) : Int) := by
  induction s with
  | nil =>
    have : card (hasB []) = 0 := by
      unfold card
      rw [List.countP_eq_zero]
      intro k _
      simp [hasB]
    rw [this]
    rfl
  | cons x s ih =>
    have hx := hb x List.mem_cons_self
    have hle := hs.1
    obtain ⟨a, ha⟩ := Int.eq_ofNat_of_zero_le hx.1
    obtain ⟨b, hbb⟩ := Int.eq_ofNat_of_zero_le (show 0 ≤ x.f1 by omega)
    have e1 := card_one a b (by omega) (by omega)
    have hone : ∀ k : Nat, impl_SetHas.has (k : Int) x = (decide (a ≤ k) && decide (k ≤ b)) := by
      intro k
      unfold impl_SetHas.has
      rw [ha, hbb, Bool.eq_iff_iff, Bool.and_eq_true, Bool.and_eq_true, decide_eq_true_iff, decide_eq_true_iff, decide_eq_true_iff, decide_eq_true_iff]
      omega
    have e2 := countP_both (fun k => decide (a ≤ k) && decide (k ≤ b)) (hasB s) (List.range 10000)
    have e3 : (List.range 10000).countP (fun k => (decide (a ≤ k) && decide (k ≤ b)) && hasB s k) = 0 := by
      rw [List.countP_eq_zero]
      intro k _ h
      rw [Bool.and_eq_true] at h
      have h1 := hone k
      rw [h.1] at h1
      unfold impl_SetHas.has at h1
      rw [Bool.and_eq_true, decide_eq_true_iff, decide_eq_true_iff] at h1
      have := hs.tail_gt ((hasB_iff s k).1 h.2)
      omega
    have e4 : card (hasB (x :: s)) = (List.range 10000).countP (fun k => (decide (a ≤ k) && decide (k ≤ b)) || hasB s k) :=
      countP_same _ _ _ (fun k _ => by show (x :: s).any _ = _; rw [List.any_cons, hone k]; rfl)
    have e5 := ih hs.2.2 (fun y hy => hb y (List.mem_cons_of_mem _ hy))
    unfold sumW
    unfold card at e1 e4 e5 ⊢
    omega
theorem sumW_bd (s : List S49) (hs : Nrm s) (hb : Bd s) : 0 ≤ sumW s ∧ sumW s ≤ 10000 := by
  rw [sumW_card s hs hb]
  have := List.countP_le_length (p := hasB s) (l := List.range 10000)
  rw [List.length_range] at this
  unfold card
  omega
theorem sizeFrom_sum (s : List S49) (hn : s.length ≤ 2097152) (hs : Nrm s) (hb : Bd s) (d : Nat) : ∀ (i : Nat) (n : Int), i + d = s.length → 0 ≤ n → n ≤ 10000 * (i : Int) → sizeFrom s d i n = n + sumW (s.drop i) := by
  induction d with
  | zero =>
    intro i n hi h0 h1
    rw [List.drop_of_length_le (by omega)]
    unfold sizeFrom sumW
    omega
  | succ d ih =>
    intro i n hi h0 h1
    have hil : i < s.length := by omega
    have hx := hb _ (List.getElem_mem hil)
    have hle := hs.le _ (List.getElem_mem hil)
    rw [List.drop_eq_getElem_cons hil]
    unfold sizeFrom sumW
    rw [rdI_get hil, w64 (x := n + s[i].f1 - s[i].f0 + 1) (by omega) (by omega), ih (i + 1) _ (by omega) (by omega) (by omega)]
    omega
theorem setSize_is (s : List S49) (hn : s.length ≤ 2097152) (hs : Nrm s) (hb : Bd s) : setSize s = ((card (hasB s) : Nat) : Int) := by
  unfold setSize
  rw [if_pos ((setOk_iff s).2 ⟨hs, hb⟩), sizeFrom_sum s hn hs hb s.length 0 0 (by omega) (by omega) (by omega), List.drop_zero, sumW_card s hs hb]
  omega
theorem card_le (p : Nat → Bool) : card p ≤ 10000 := by
  have := List.countP_le_length (p := p) (l := List.range 10000)
  rw [List.length_range] at this
  exact this
theorem apart1_iff (x : S49) (b : List S49) (d : Nat) : ∀ j, j + d = b.length → (apart1 x b d j = true ↔ ∀ y ∈ b.drop j, ¬ (x.f0 ≤ y.f1 ∧ y.f0 ≤ x.f1)) := by
  induction d with
  | zero =>
    intro j hj
    rw [List.drop_of_length_le (by omega)]
    exact ⟨fun _ y hy => (by cases hy), fun _ => rfl⟩
  | succ d ih =>
    intro j hj
    have hjl : j < b.length := by omega
    rw [List.drop_eq_getElem_cons hjl]
    unfold apart1
    rw [rdI_get hjl]
    have h2 := ih (j + 1) (by omega)
    by_cases c : x.f0 ≤ b[j].f1
    · rw [if_pos c]
      by_cases e : b[j].f0 ≤ x.f1
      · rw [if_pos e]
        exact ⟨fun h => (by cases h), fun h => absurd ⟨c, e⟩ (h _ List.mem_cons_self)⟩
      · rw [if_neg e, h2]
        refine ⟨fun h y hy => ?_, fun h y hy => h y (List.mem_cons_of_mem _ hy)⟩
        rcases List.mem_cons.1 hy with rfl | hy
        · exact fun g => e g.2
        · exact h y hy
    · rw [if_neg c, h2]
      refine ⟨fun h y hy => ?_, fun h y hy => h y (List.mem_cons_of_mem _ hy)⟩
      rcases List.mem_cons.1 hy with rfl | hy
      · exact fun g => c g.1
      · exact h y hy
theorem apartFrom_iff (a b : List S49) (d : Nat) : ∀ i, i + d = a.length → (apartFrom a b d i = true ↔ ∀ x ∈ a.drop i, ∀ y ∈ b, ¬ (x.f0 ≤ y.f1 ∧ y.f0 ≤ x.f1)) := by
  induction d with
  | zero =>
    intro i hi
    rw [List.drop_of_length_le (by omega)]
    exact ⟨fun _ y hy => (by cases hy), fun _ => rfl⟩
  | succ d ih =>
    intro i hi
    have hil : i < a.length := by omega
    rw [List.drop_eq_getElem_cons hil]
    unfold apartFrom
    rw [rdI_get hil, Bool.and_eq_true, apart1_iff _ b b.length 0 (by omega), ih (i + 1) (by omega), List.drop_zero]
    refine ⟨fun h x hx => ?_, fun h => ⟨h _ List.mem_cons_self, fun x hx => h x (List.mem_cons_of_mem _ hx)⟩⟩
    rcases List.mem_cons.1 hx with rfl | hx
    · exact h.1
    · exact h.2 x hx
theorem setApart_iff {a b : List S49} (ha : Nrm a) (hA : Bd a) (hb : Nrm b) (hB : Bd b) : setApart a b = true ↔ card (fun k => hasB a k && hasB b k) = 0 := by
  unfold setApart
  rw [(setOk_iff a).2 ⟨ha, hA⟩, (setOk_iff b).2 ⟨hb, hB⟩, Bool.true_and, Bool.true_and, apartFrom_iff a b a.length 0 (by omega), List.drop_zero]
  unfold card
  rw [List.countP_eq_zero]
  constructor
  · intro h k _ hk
    rw [Bool.and_eq_true, hasB_iff, hasB_iff] at hk
    obtain ⟨⟨x, hx, x1, x2⟩, ⟨y, hy, y1, y2⟩⟩ := hk
    exact h x hx y hy ⟨by omega, by omega⟩
  · rintro h x hx y hy ⟨g1, g2⟩
    have hxb := hA x hx
    have hyb := hB y hy
    have hxl := ha.le x hx
    have hyl := hb.le y hy
    obtain ⟨m, hm⟩ := Int.eq_ofNat_of_zero_le (show 0 ≤ (if x.f0 ≤ y.f0 then y.f0 else x.f0) by split <;> omega)
    have hm1 : m ∈ List.range 10000 := by
      rw [List.mem_range]
      split at hm <;> omega
    refine h m hm1 ?_
    rw [Bool.and_eq_true, hasB_iff, hasB_iff]
    refine ⟨⟨x, hx, ?_, ?_⟩, ⟨y, hy, ?_, ?_⟩⟩ <;> (split at hm <;> omega)
theorem card_join {a b : List S49} (ha : Nrm a) (hb : Nrm b) : card (hasB (joinL a b)) + card (fun k => hasB a k && hasB b k) = card (hasB a) + card (hasB b) := by
  have e := countP_both (hasB a) (hasB b) (List.range 10000)
  have e2 : card (hasB (joinL a b)) = (List.range 10000).countP (fun k => hasB a k || hasB b k) := countP_same _ _ _ (fun k _ => by
    rw [Bool.eq_iff_iff, hasB_iff, Bool.or_eq_true, hasB_iff, hasB_iff]
    exact (joinL_ok b a ha hb.le).2 k)
  unfold card at e2 ⊢
  omega
theorem joinL_comm {a b : List S49} (ha : Nrm a) (hb : Nrm b) : joinL a b = joinL b a := by
  obtain ⟨h1, h2⟩ := joinL_ok b a ha hb.le
  obtain ⟨h3, h4⟩ := joinL_ok a b hb ha.le
  exact Nrm.uniq _ _ h1 h3 (fun n => by rw [h2 n, h4 n, or_comm])
theorem any_join {a b : List S49} (ha : Nrm a) (hb : Nrm b) (n : Int) : (joinL a b).any (impl_SetHas.has n) = (a.any (impl_SetHas.has n) || b.any (impl_SetHas.has n)) := by
  rw [Bool.eq_iff_iff, any_has, Bool.or_eq_true, any_has, any_has]
  exact (joinL_ok b a ha hb.le).2 n
theorem any_put {s : List S49} (hs : Nrm s) (n : Int) : (put s ⟨n, n⟩).any (impl_SetHas.has n) = true := by
  rw [any_has, (put_ok hs (Int.le_refl n)).2 n]
  exact .inr ⟨Int.le_refl _, Int.le_refl _⟩
theorem size_put {s : List S49} (hs : Nrm s) (n : Int) (hn : 0 ≤ n ∧ n ≤ 9999) (hno : s.any (impl_SetHas.has n) = false) : card (hasB (put s ⟨n, n⟩)) = card (hasB s) + 1 := by
  obtain ⟨m, rfl⟩ := Int.eq_ofNat_of_zero_le hn.1
  have e := countP_both (hasB s) (fun k => decide (m ≤ k) && decide (k ≤ m)) (List.range 10000)
  have e1 := card_one m m (Nat.le_refl _) (by omega)
  have e2 : card (hasB (put s ⟨m, m⟩)) = (List.range 10000).countP (fun k => hasB s k || (decide (m ≤ k) && decide (k ≤ m))) := countP_same _ _ _ (fun k _ => by
    rw [Bool.eq_iff_iff, hasB_iff, Bool.or_eq_true, hasB_iff, Bool.and_eq_true, decide_eq_true_iff, decide_eq_true_iff, (put_ok hs (Int.le_refl _)).2 (k : Int)]
    simp only
    constructor
    · rintro (h | h)
      · exact .inl h
      · exact .inr (by omega)
    · rintro (h | h)
      · exact .inl h
      · exact .inr (by omega))
  have e3 : (List.range 10000).countP (fun k => hasB s k && (decide (m ≤ k) && decide (k ≤ m))) = 0 := by
    rw [List.countP_eq_zero]
    intro k _ h
    rw [Bool.and_eq_true, Bool.and_eq_true, decide_eq_true_iff, decide_eq_true_iff] at h
    obtain rfl : k = m := by omega
    have := h.1
    unfold hasB at this
    rw [hno] at this
    cases this
  unfold card at e1 e2 ⊢
  omega
/-! ### the sets that are drawn -/
theorem pick_mem (l : List Int) (hl : l.length ≤ 281474976702464) (p : Nat) (hp : p ≤ l.length) (r : Int) (xs : List Int) (h0 : 0 < xs.length) (h1 : xs.length ≤ 256) :
    ∃ (v : Int) (q : Nat) (s : Int), spec_l1PickInt.f l p r xs = some (v, (q : Int), s) ∧ v ∈ xs ∧ q ≤ l.length := by
  obtain ⟨v, q, s, e, hv, hq⟩ := l1Below_is l hl p hp r xs.length h0 h1
  refine ⟨rd xs (v : Int), q, s, ?_, by rw [rd_get hv]; exact List.getElem_mem hv, hq⟩
  unfold spec_l1PickInt.f
  rw [e]
  simp only [Option.bind_some]
  rw [if_pos (by omega), if_pos (by omega)]
theorem l5Right_at (l : List Int) (hl : l.length ≤ 281474976702464) (n : Nat) (hn : n ≤ 7) (d : Nat) : ∀ (i p : Nat) (r : Int) (xs : List S49), i + d = n → p ≤ l.length → Nrm xs → Bd xs → xs.length ≤ i →
    ∃ (ys : List S49) (q : Nat) (s : Int), Ev (fun k => spec_l5Right.l0 k xs (n : Int) (i : Int) l (p : Int) r) (ys, (q : Int), s) ∧ Nrm ys ∧ Bd ys ∧ ys.length ≤ n ∧ q ≤ l.length := by
  induction d with
  | zero =>
    intro i p r xs hi hp hx hb hlx
    refine ⟨xs, p, r, Ev.step (fun _ => rfl) ?_, hx, hb, by omega, hp⟩
    simp only [spec_l5Right.l0]
    exact ev_neg (by omega) (ev_some rfl)
  | succ d ih =>
    intro i p r xs hi hp hx hb hlx
    obtain ⟨a, q1, s1, e1, ha, hq1⟩ := l1Below_is l hl p hp r 20 (by omega) (by omega)
    obtain ⟨b, q2, s2, e2, hb2, hq2⟩ := l1Below_is l hl q1 hq1 s1 20 (by omega) (by omega)
    obtain ⟨c, q3, s3, e3, hc, hq3⟩ := l1Below_is l hl q2 hq2 s2 10 (by omega) (by omega)
    obtain ⟨lo, q4, s4, e4, hlo, hq4⟩ := pick_mem l hl q3 hq3 s3 [(a : Int), (b : Int), wrap64 (9990 + (c : Int))] (by simp) (by simp)
    obtain ⟨w, q5, s5, e5, hw, hq5⟩ := l1Below_is l hl q4 hq4 s4 3 (by omega) (by omega)
    have hlr : 0 ≤ lo ∧ lo ≤ 9999 := by
      rw [w64 (x := 9990 + (c : Int)) (by omega) (by omega)] at hlo
      simp only [List.mem_cons, List.not_mem_nil, or_false] at hlo
      omega
    have emn : spec_l1Min.f (wrap64 (lo + (w : Int))) 9999 = some (if lo + (w : Int) < 9999 then lo + (w : Int) else 9999) := by
      rw [w64 (by omega) (by omega)]
      unfold spec_l1Min.f
      split <;> rfl
    have hhi : lo ≤ (if lo + (w : Int) < 9999 then lo + (w : Int) else 9999) ∧ (if lo + (w : Int) < 9999 then lo + (w : Int) else 9999) ≤ 9999 := by split <;> omega
    generalize (if lo + (w : Int) < 9999 then lo + (w : Int) else 9999) = hi' at emn hhi
    have hput := spec_put_ev xs ⟨lo, hi'⟩ hb hx (by omega) ⟨hlr.1, hhi.2, hhi.1⟩
    have hpl := put_len xs ⟨lo, hi'⟩
    obtain ⟨ys, q6, s6, h6, hy1, hy2, hy3, hq6⟩ := ih (i + 1) q5 s5 (put xs ⟨lo, hi'⟩) (by omega) hq5 (put_ok hx hhi.1).1 (put_bd hb ⟨hlr.1, hhi.2⟩) (by omega)
    refine ⟨ys, q6, s6, Ev.step (fun _ => rfl) ?_, hy1, hy2, hy3, hq6⟩
    simp only [spec_l5Right.l0]
    refine ev_pos (by omega) (ev_bind0 e1 (ev_bind0 e2 (ev_bind0 e3 (ev_bind0 e4 (ev_bind0 e5 (ev_bind0 emn (Ev.bind hput ?_)))))))
    rw [wsucc (by omega)]
    exact h6
theorem l5Draw_ev (l : List Int) (hl : l.length ≤ 281474976702464) (p : Nat) (hp : p ≤ l.length) (r : Int) :
    ∃ (ys : List S49) (q : Nat) (s : Int), Ev (fun k => spec_l5Draw.f k l (p : Int) r) (ys, (q : Int), s) ∧ ys.length ≤ 8 ∧ q ≤ l.length := by
  obtain ⟨n, q1, s1, e1, hn, hq1⟩ := l1Below_is l hl p hp r 7 (by omega) (by omega)
  obtain ⟨ys, q2, s2, h2, _, _, hy, hq2⟩ := l5Right_at l hl n (by omega) n 0 q1 s1 [] (by omega) hq1 trivial (fun _ h => by cases h) (by simp)
  have hR : Ev (fun k => spec_l5Right.f k l (p : Int) r) (ys, (q2 : Int), s2) := by
    unfold spec_l5Right.f
    exact ev_bind0 e1 h2
  obtain ⟨o, q3, s3, e3, hq3⟩ := once_at l hl q2 hq2 s2 8 (by omega) (by omega)
  cases o with
  | false =>
    refine ⟨ys, q3, s3, ?_, by omega, hq3⟩
    unfold spec_l5Draw.f
    exact Ev.bind hR (ev_bind0 e3 (ev_neg (by simp) (ev_some rfl)))
  | true =>
    obtain ⟨a, q4, s4, e4, _, hq4⟩ := pick_mem l hl q3 hq3 s3 [(-1), 3, 10000] (by simp) (by simp)
    obtain ⟨b, q5, s5, e5, _, hq5⟩ := pick_mem l hl q4 hq4 s4 [5, 10000, 9223372036854775807] (by simp) (by simp)
    refine ⟨ys ++ [⟨a, b⟩], q5, s5, ?_, by rw [List.length_append]; simp only [List.length_cons, List.length_nil]; omega, hq5⟩
    unfold spec_l5Draw.f
    exact Ev.bind hR (ev_bind0 e3 (ev_pos rfl (ev_bind0 e4 (ev_bind0 e5 (ev_pos (show ys.length < 8796093022208 by omega) (ev_some rfl))))))
/-- The decimal digits of a number; none of zero. -/
def digs (u : Nat) : List UInt8 := if u = 0 then [] else Lib.decDigits u
theorem digs_step (u : Nat) (h : u ≠ 0) : digs u = digs (u / 10) ++ [UInt8.ofNat (48 + u % 10)] := by
  unfold digs
  rw [if_neg h, Lib.decDigits]
  by_cases h10 : u < 10
  · rw [dif_pos h10, if_pos (by omega), show u % 10 = u by omega]
    rfl
  · rw [dif_neg h10, if_neg (by omega)]
theorem digs_len (u : Nat) (h : u ≠ 0) : (digs u).length = (digs (u / 10)).length + 1 := by rw [digs_step u h]; simp
theorem bytes_app (a b : List UInt8) : (⟨a.toArray⟩ : ByteArray) ++ ⟨b.toArray⟩ = ⟨(a ++ b).toArray⟩ := by
  apply ByteArray.ext
  simp
theorem bytes_size (a : List UInt8) : (⟨a.toArray⟩ : ByteArray).size = a.length := by simp [ByteArray.size]
theorem impl_digits_is (n : Int) (h0 : -9223372036854775808 ≤ n) (h1 : n ≤ 9223372036854775807) : impl_Digits.f n = some ⟨(Lib.itoa n).toArray⟩ := by
  unfold impl_Digits.f
  rw [if_pos ⟨h0, h1⟩]
/-! ### a set's text -/
def txt (x : S49) : List UInt8 := Lib.itoa x.f0 ++ (if x.f1 = x.f0 then [] else 45 :: Lib.itoa x.f1)
theorem join_snoc (l : List (List UInt8)) (x sep : List UInt8) : Lib.join (l ++ [x]) sep = if l = [] then x else Lib.join l sep ++ (sep ++ x) := by
  cases l with
  | nil => rw [if_pos rfl, List.nil_append, Lib.join_one]
  | cons y r =>
    rw [if_neg (by simp), List.cons_append, Lib.join_cons, Lib.join_cons]
    simp [Lib.joinTail]
theorem join_small (l : List (List UInt8)) (n : Nat) (h : ∀ x ∈ l, x.length ≤ n) : (Lib.join l [44]).length ≤ (n + 1) * l.length := by
  cases l with
  | nil => simp [Lib.join_nil]
  | cons x r =>
    rw [Lib.join_length]
    have key : ∀ r : List (List UInt8), (∀ x ∈ r, x.length ≤ n) → Lib.lens r ≤ n * r.length := by
      intro r
      induction r with
      | nil => intro _; simp [Lib.lens]
      | cons y r ih =>
        intro hy
        have h1 := ih (fun z hz => hy z (List.mem_cons_of_mem _ hz))
        have h2 := hy y List.mem_cons_self
        have e : Lib.lens (y :: r) = y.length + Lib.lens r := by simp [Lib.lens]
        rw [e, List.length_cons, Nat.mul_succ]
        omega
    have := key (x :: r) h
    have e : (n + 1) * (r.length + 1) = n * (r.length + 1) + (r.length + 1) := by rw [Nat.add_mul, Nat.one_mul]
    simp only [List.length_cons, List.length_nil] at this ⊢
    rw [e]
    omega
def rgS (s : List S49) : Prop := ∀ x ∈ s, (-9223372036854775808 ≤ x.f0 ∧ x.f0 ≤ 9223372036854775807) ∧ (-9223372036854775808 ≤ x.f1 ∧ x.f1 ≤ 9223372036854775807)
theorem txt_len (x : S49) (h : (-9223372036854775808 ≤ x.f0 ∧ x.f0 ≤ 9223372036854775807) ∧ (-9223372036854775808 ≤ x.f1 ∧ x.f1 ≤ 9223372036854775807)) : (txt x).length ≤ 43 := by
  have h1 := Lib.itoa_length_le x.f0 h.1.1 h.1.2
  have h2 := Lib.itoa_length_le x.f1 h.2.1 h.2.2
  unfold txt
  rw [List.length_append]
  split
  · simp only [List.length_nil]; omega
  · simp only [List.length_cons]; omega
def jn (s : List S49) : List UInt8 := Lib.join (s.map txt) [44]
theorem jn_len (s : List S49) (h : rgS s) : (jn s).length ≤ 44 * s.length := by
  have := join_small (s.map txt) 43 (fun x hx => by
    obtain ⟨y, hy, rfl⟩ := List.mem_map.1 hx
    exact txt_len y (h y hy))
  rw [List.length_map] at this
  exact this
theorem jn_step (s : List S49) (i : Nat) (hi : i < s.length) : jn (s.take (i + 1)) = if i = 0 then txt s[i] else jn (s.take i) ++ (44 :: txt s[i]) := by
  unfold jn
  rw [List.take_succ_eq_append_getElem hi, List.map_append, List.map_cons, List.map_nil, join_snoc]
  by_cases h0 : i = 0
  · subst h0
    simp
  · rw [if_neg h0, if_neg (fun e => by
      have := congrArg List.length e
      rw [List.length_map, List.length_take, List.length_nil] at this
      omega)]
    rfl
def tx (x : S49) : ByteArray := ⟨(txt x).toArray⟩
theorem tx_map (s : List S49) : (s.map tx).map (·.data.toList) = s.map txt := by
  rw [List.map_map]
  refine List.map_congr_left (fun x _ => ?_)
  simp [tx]
theorem impl_setText_at (s : List S49) (hs : s.length ≤ 1048576) (hr : rgS s) (d : Nat) : ∀ i : Nat, i + d = s.length →
    Ev (fun k => impl_SetText.l0 k ((s.take i).map tx) s (s.length : Int) (i : Int)) ⟨(jn s).toArray⟩ := by
  induction d with
  | zero =>
    intro i hi
    refine Ev.step (fun _ => rfl) ?_
    simp only [impl_SetText.l0]
    refine ev_neg (by omega) (ev_bind0 (a := (⟨(jn s).toArray⟩ : ByteArray)) ?_ (ev_some rfl))
    rw [show i = s.length by omega, List.take_length]
    have hj := jn_len s hr
    have e : (Lib.join ((s.map tx).map (·.data.toList)) (⟨#[44]⟩ : ByteArray).data.toList) = jn s := by rw [tx_map]; rfl
    unfold strings_Join.f joinB
    rw [e, if_pos ⟨by rw [List.length_map]; omega, by omega⟩]
  | succ d ih =>
    intro i hi
    have hil : i < s.length := by omega
    have hx := hr _ (List.getElem_mem hil)
    have h1 := Lib.itoa_length_le s[i].f0 hx.1.1 hx.1.2
    have h2 := Lib.itoa_length_le s[i].f1 hx.2.1 hx.2.2
    refine Ev.step (fun _ => rfl) ?_
    simp only [impl_SetText.l0]
    rw [rdI_get hil, wsucc (by omega)]
    have hnext : ∀ t : ByteArray, t = tx s[i] → Ev (fun k => if ((s.take i).map tx).length < 8796093022208 then impl_SetText.l0 k ((s.take i).map tx ++ [t]) s (s.length : Int) ((i + 1 : Nat) : Int) else none) ⟨(jn s).toArray⟩ := by
      intro t ht
      refine ev_pos (by rw [List.length_map, List.length_take]; omega) ?_
      have : (s.take i).map tx ++ [t] = (s.take (i + 1)).map tx := by rw [List.take_succ_eq_append_getElem hil, List.map_append, ht]; rfl
      rw [this]
      exact ih (i + 1) (by omega)
    refine ev_pos (by omega) (ev_pos (by omega) (ev_pos (by omega) (ev_bind0 (impl_digits_is s[i].f0 hx.1.1 hx.1.2) ?_)))
    by_cases e : s[i].f1 = s[i].f0
    · exact ev_pos e (hnext _ (by unfold tx txt; rw [if_pos e, List.append_nil]))
    · refine ev_neg e (ev_bind0 (impl_digits_is s[i].f1 hx.2.1 hx.2.2) (ev_pos (by rw [bytes_size]; omega) ?_))
      have e45 : (⟨#[45]⟩ : ByteArray) ++ (⟨(Lib.itoa s[i].f1).toArray⟩ : ByteArray) = ⟨(45 :: Lib.itoa s[i].f1).toArray⟩ := bytes_app [45] (Lib.itoa s[i].f1)
      rw [e45, bytes_app]
      refine ev_pos (by rw [bytes_size, bytes_size, List.length_cons]; omega) (hnext _ (by unfold tx txt; rw [if_neg e]))
theorem impl_setText_ev (s : List S49) (hs : s.length ≤ 1048576) (hr : rgS s) : Ev (fun k => impl_SetText.f k s) ⟨(jn s).toArray⟩ := by
  unfold impl_SetText.f
  have := impl_setText_at s hs hr s.length 0 (by omega)
  rw [List.take_zero, List.map_nil] at this
  exact this
theorem some_at (a b j : List S49) (hj : ∀ n : Int, j.any (impl_SetHas.has n) = (a.any (impl_SetHas.has n) || b.any (impl_SetHas.has n))) (k' : List S49) (v : Bool) (d : Nat) : ∀ i : Nat, i + d = 30 →
    Ev (fun k => laws_FnSets.l0 k a b j k' ((30 : Nat) : Int)) v → Ev (fun k => laws_FnSets.l0 k a b j k' (i : Int)) v := by
  induction d with
  | zero =>
    intro i hi h
    rw [show i = 30 by omega]
    exact h
  | succ d ih =>
    intro i hi h
    refine Ev.step (fun _ => rfl) ?_
    simp only [laws_FnSets.l0]
    rw [wsucc (by omega)]
    refine ev_pos (by omega) (ev_bind0 rfl (ev_bind0 rfl ?_))
    have hn := ih (i + 1) (by omega) h
    rw [hj (i : Int)]
    cases ha : a.any (impl_SetHas.has (i : Int)) with
    | true => exact ev_pos rfl (ev_neg (by simp) hn)
    | false => exact ev_neg (by simp) (ev_bind0 rfl (ev_neg (by simp) hn))
theorem FnSets : laws_FnSets.Pure := by
  intro l _
  refine (?_ : Ev (fun k => laws_FnSets.f k l) true).rounds
  unfold laws_FnSets.f laws_big.f
  simp only [Option.bind_some]
  by_cases hbig : (l.length : Int) > 1048576
  · exact ev_pos (decide_eq_true hbig) (ev_some rfl)
  refine ev_neg (by rw [decide_eq_false hbig]; simp) ?_
  obtain ⟨s0, hs0⟩ := l1New_ev l
  obtain ⟨a, q1, s1, h1, la, hq1⟩ := l5Draw_ev l (by omega) 0 (by omega) s0
  obtain ⟨b, q2, s2, h2, lb, hq2⟩ := l5Draw_ev l (by omega) q1 hq1 s1
  refine Ev.bind (a := (a, b)) ?_ ?_
  · unfold spec_DrawSetJoin.f
    refine Ev.bind (a := (a, b)) ?_ (ev_some rfl)
    unfold spec_l5Two.f
    exact Ev.bind hs0 (Ev.bind h1 (Ev.bind h2 (ev_some rfl)))
  have h22 : (joinV b a).2 = (joinV a b).2 := by
    unfold joinV
    by_cases g1 : setOk a = true <;> by_cases g2 : setOk b = true <;> simp [g1, g2]
  have hne : ∀ x : Bool, (x != x) = false := by simp
  refine Ev.bind (impl_setJoin_ev a b (by omega) (by omega)) (Ev.bind (impl_setJoin_ev b a (by omega) (by omega)) (Ev.bind (spec_setJoin_ev a b (by omega) (by omega)) ?_))
  rw [h22, hne]
  refine ev_neg (by decide) (ev_neg (by decide) (Ev.bind (impl_setApart_ev a b (by omega) (by omega)) (Ev.bind (spec_setApart_ev a b (by omega) (by omega)) ?_)))
  rw [hne]
  refine Ev.step (fun _ => rfl) ?_
  simp only [laws_FnSets.j0]
  refine ev_neg (by decide) ?_
  by_cases hok : setOk a = true ∧ setOk b = true
  case neg =>
    have e : joinV a b = ([], false) := by unfold joinV; rw [if_neg hok]
    rw [e]
    exact ev_neg (by simp) (ev_some rfl)
  obtain ⟨na, ba⟩ := (setOk_iff a).1 hok.1
  obtain ⟨nb, bb⟩ := (setOk_iff b).1 hok.2
  have ej : joinV a b = (joinL a b, true) := by unfold joinV; rw [if_pos hok]
  have ek : joinV b a = (joinL b a, true) := by unfold joinV; rw [if_pos hok.symm]
  rw [ej, ek]
  refine ev_pos rfl ?_
  have nj := (joinL_ok b a na nb.le).1
  have bj := join_bd b a ba bb
  have lj := join_len b a
  have last : Ev (fun k => laws_FnSets.j1 k a b (joinL a b) (joinL b a) false) true := by
    refine Ev.step (fun _ => rfl) ?_
    simp only [laws_FnSets.j1]
    refine ev_neg (by decide) (some_at a b (joinL a b) (any_join na nb) (joinL b a) true 30 0 (by omega) (Ev.step (fun _ => rfl) ?_))
    simp only [laws_FnSets.l0]
    have rj : rgS (joinL a b) := fun x hx => by have := bj x hx; have := nj.le x hx; omega
    have tj := impl_setText_ev (joinL a b) (by omega) rj
    have sj := impl_setSize_ev (joinL a b) (by omega)
    have sa := impl_setSize_ev a (by omega)
    have sb := impl_setSize_ev b (by omega)
    have oj := impl_setOk_ev (joinL a b) (by omega)
    rw [(setOk_iff _).2 ⟨nj, bj⟩] at oj
    have cj := card_join na nb
    have lea := card_le (hasB a)
    have leb := card_le (hasB b)
    have iff_ := setApart_iff na ba nb bb
    rw [← joinL_comm na nb]
    have e1 := setSize_is (joinL a b) (by omega) nj bj
    have e2 := setSize_is a (by omega) na ba
    have e3 := setSize_is b (by omega) nb bb
    have hw : wrap64 (setSize a + setSize b) = setSize a + setSize b := w64 (by omega) (by omega)
    refine ev_neg (by omega) (Ev.bind tj (Ev.bind tj (ev_pos rfl (Ev.bind oj (ev_pos (by trivial) (Ev.bind sj (Ev.bind sa (Ev.bind sb ?_))))))))
    rw [hw]
    refine ev_pos (by omega) (Ev.bind (impl_setApart_ev a b (by omega) (by omega)) (Ev.bind sj (Ev.bind sa (Ev.bind sb (ev_some ?_)))))
    rw [hw]
    cases ap : setApart a b with
    | true =>
      have := iff_.1 ap
      have : (setSize (joinL a b) == setSize a + setSize b) = true := by rw [beq_iff_eq]; omega
      rw [this]
      rfl
    | false =>
      have hn : card (fun k => hasB a k && hasB b k) ≠ 0 := fun h0 => by rw [iff_.2 h0] at ap; cases ap
      have : (setSize (joinL a b) == setSize a + setSize b) = false := by rw [beq_eq_false_iff_ne]; omega
      rw [this]
      rfl
  obtain ⟨s, q3, s3, h3, ls, hq3⟩ := l5Draw_ev l (by omega) 0 (by omega) s0
  obtain ⟨v4, q4, s4, e4, _, hq4⟩ := l1Below_is l (by omega) q3 hq3 s3 22 (by omega) (by omega)
  obtain ⟨v5, q5, s5, e5, _, hq5⟩ := l1Below_is l (by omega) q4 hq4 s4 22 (by omega) (by omega)
  obtain ⟨n, q6, s6, e6, _, hq6⟩ := pick_mem l (by omega) q5 hq5 s5 [(v4 : Int), (v5 : Int), 9999, 10000, (-1)] (by simp) (by simp)
  refine Ev.bind (a := (s, n)) ?_ ?_
  · unfold spec_DrawSetAdd.f
    refine Ev.bind (a := (s, n)) ?_ (ev_some rfl)
    unfold spec_l5Num.f
    exact Ev.bind hs0 (Ev.bind h3 (ev_bind0 e4 (ev_bind0 e5 (ev_bind0 e6 (ev_some rfl)))))
  refine Ev.bind (impl_setAdd_ev s n (by omega)) (Ev.bind (spec_setAdd_ev s n (by omega)) ?_)
  rw [hne]
  refine ev_neg (by decide) ?_
  by_cases hadd : setOk s = true ∧ (0 ≤ n ∧ n ≤ 9999) ∧ s.any (impl_SetHas.has n) = false
  case neg =>
    have e : addV s n = (s, false) := by unfold addV; rw [if_neg hadd]
    rw [e]
    exact ev_neg (by simp) last
  have e : addV s n = (put s ⟨n, n⟩, true) := by unfold addV; rw [if_pos hadd]
  obtain ⟨ns, bs⟩ := (setOk_iff s).1 hadd.1
  have np := (put_ok (x := ⟨n, n⟩) ns (Int.le_refl n)).1
  have bp : Bd (put s ⟨n, n⟩) := put_bd bs hadd.2.1
  have lp := put_len s ⟨n, n⟩
  rw [e]
  refine ev_pos rfl (ev_bind0 (a := true) (by unfold impl_SetHas.f; rw [any_put ns n]) (ev_pos rfl (Ev.bind (impl_setSize_ev (put s ⟨n, n⟩) (by omega)) (Ev.bind (impl_setSize_ev s (by omega)) ?_))))
  have c1 := size_put ns n hadd.2.1 hadd.2.2
  have c2 := card_le (hasB s)
  have e1 := setSize_is (put s ⟨n, n⟩) (by omega) np bp
  have e2 := setSize_is s (by omega) ns bs
  rw [w64 (x := setSize s + 1) (by omega) (by omega)]
  exact ev_pos (by omega) (ev_bind0 (a := false) (by unfold impl_SetHas.f; rw [hadd.2.2]) last)

end Go.Proofs.YtgenohcnngomeaaDoor.Pure
