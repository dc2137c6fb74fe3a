/- EntrySame of the program is EntrySame of the reference, for all arguments, and leaves its arguments as they were. -/
import Derived.Test.YtnidahdhlocpnaaPFnExactEntrySamex7
import Derived.Test.YtnidahdhlocpnaaAid
namespace Go.Proofs.Ytnidahdhlocpnaa.Pure
open Go.RowKit Go.Proofs.Ytnidahdhlocpnaa.PFnExactEntrySame Go.Proofs.YtnidahdhlocpnaaW.PrintWords Go.Proofs.YtnidahdhlocpnaaW.PrintLast Go.Proofs.YtnidahdhlocpnaaW.PrintMore Go.Proofs.Ytnidahdhlocpnaa.Aid

theorem rdR_get {xs : List (List Int)} {n : Nat} (h : n < xs.length) : rd_L2 xs (n : Int) = xs[n] := by
  unfold rd_L2
  rw [Int.toNat_natCast, List.getD_eq_getElem?_getD, List.getElem?_eq_getElem h]
  rfl
theorem rdI_get {xs : List S77} {n : Nat} (h : n < xs.length) : rd_T77 xs (n : Int) = xs[n] := by
  unfold rd_T77
  rw [Int.toNat_natCast, List.getD_eq_getElem?_getD, List.getElem?_eq_getElem h]
  rfl
theorem toIntS_at (x0 : List Int) (hn : x0.length ≤ 1048576) (d : Nat) : ∀ (i : Nat) (x3 : List Int), i + d = x0.length → x3.length = x0.length → x3.take i = x0.take i →
    Ev (fun k => laws_toIntS.l0 k x0 x3 (i : Int)) x0 := by
  induction d with
  | zero =>
    intro i x3 hi hl ht
    refine Ev.step (fun _ => rfl) ?_
    simp only [laws_toIntS.l0]
    refine ev_neg (by omega) (ev_some (take_all hl (by omega) ht))
  | succ d ih =>
    intro i x3 hi hl ht
    refine Ev.step (fun _ => rfl) ?_
    simp only [laws_toIntS.l0]
    refine ev_pos (by omega) (ev_pos (by omega) (ev_pos (by omega) ?_))
    rw [wsucc (by omega), rd_get (show i < x0.length by omega), Int.toNat_natCast]
    exact ih (i + 1) _ (by omega) (by simp [hl]) (take_set hl (by omega) ht)
theorem toIntS_ev (x0 : List Int) (hn : x0.length ≤ 1048576) : Ev (fun k => laws_toIntS.f k x0) x0 := by
  unfold laws_toIntS.f
  refine ev_pos (by omega) (ev_pos (by omega) ?_)
  exact toIntS_at x0 hn x0.length 0 _ (by omega) (by simp) (by simp)
theorem eqIntS_at (x0 : List Int) (hn : x0.length ≤ 1048576) (d : Nat) : ∀ (i : Nat), i + d = x0.length →
    Ev (fun k => laws_eqIntS.l0 k x0 x0 (i : Int)) true := by
  induction d with
  | zero =>
    intro i hi
    refine Ev.step (fun _ => rfl) ?_
    simp only [laws_eqIntS.l0]
    refine ev_neg (by omega) (ev_some rfl)
  | succ d ih =>
    intro i hi
    refine Ev.step (fun _ => rfl) ?_
    simp only [laws_eqIntS.l0]
    refine ev_pos (by omega) (ev_pos (by omega) (ev_pos (by omega) (ev_pos (by trivial) ?_)))
    rw [wsucc (by omega)]
    exact ih (i + 1) (by omega)
theorem eqIntS_ev (x0 : List Int) (hn : x0.length ≤ 1048576) : Ev (fun k => laws_eqIntS.f k x0 x0) true := by
  unfold laws_eqIntS.f
  exact ev_pos (by trivial) (eqIntS_at x0 hn x0.length 0 (by omega))
theorem toIntSS_at (x0 : List (List Int)) (hn : x0.length ≤ 1048576) (hx : ∀ x ∈ x0, x.length ≤ 1048576) (d : Nat) : ∀ (i : Nat) (x3 : List (List Int)), i + d = x0.length → x3.length = x0.length → x3.take i = x0.take i →
    Ev (fun k => laws_toIntSS.l0 k x0 x3 (i : Int)) x0 := by
  induction d with
  | zero =>
    intro i x3 hi hl ht
    refine Ev.step (fun _ => rfl) ?_
    simp only [laws_toIntSS.l0]
    refine ev_neg (by omega) (ev_some (take_all hl (by omega) ht))
  | succ d ih =>
    intro i x3 hi hl ht
    refine Ev.step (fun _ => rfl) ?_
    simp only [laws_toIntSS.l0]
    rw [wsucc (by omega), rdR_get (show i < x0.length by omega), Int.toNat_natCast]
    refine ev_pos (by omega) (ev_pos (by omega) (Ev.bind (toIntS_ev _ (hx _ (List.getElem_mem (by omega)))) (ev_pos (by omega) ?_)))
    exact ih (i + 1) _ (by omega) (by simp [hl]) (take_set hl (by omega) ht)
theorem toIntSS_ev (x0 : List (List Int)) (hn : x0.length ≤ 1048576) (hx : ∀ x ∈ x0, x.length ≤ 1048576) : Ev (fun k => laws_toIntSS.f k x0) x0 := by
  unfold laws_toIntSS.f
  refine ev_pos (by omega) (ev_pos (by omega) ?_)
  exact toIntSS_at x0 hn hx x0.length 0 _ (by omega) (by simp) (by simp)
theorem toSketch_ev (c s mn mx : Int) (h r : List Int) (R : List (List Int)) (hh : h.length ≤ 1048576) (hr : r.length ≤ 1048576) (hR : R.length ≤ 1048576) (hx : ∀ x ∈ R, x.length ≤ 1048576) :
    Ev (fun k => laws_toSketch.f k c s mn mx h r R) (c, s, mn, mx, h, r, R) := by
  unfold laws_toSketch.f
  exact Ev.bind (toIntS_ev h hh) (Ev.bind (toIntS_ev r hr) (Ev.bind (toIntSS_ev R hR hx) (ev_some rfl)))
theorem szIntS_is (l0 : List Int) (a : Int) (h0 : 0 ≤ a) (h1 : a ≤ 1048576) (hl : l0.length ≤ 9223372036854775807) : laws_szIntS.f l0 a = some (if a < l0.length then -1 else a - l0.length) := by
  unfold laws_szIntS.f
  rw [w64 (by omega) (by omega)]
  by_cases h : a < l0.length
  · rw [if_pos (by omega), if_pos h]
  · rw [if_neg (by omega), if_neg h]
theorem szIntSS_at (R : List (List Int)) (hR : R.length ≤ 1048576) (hx : ∀ x ∈ R, x.length ≤ 9223372036854775807) (d : Nat) : ∀ (i : Nat) (a : Int), i + d = R.length → 0 ≤ a → a ≤ 1048576 →
    ∃ v, Ev (fun k => laws_szIntSS.l0 k R a (i : Int)) v ∧ v ≤ a ∧ (0 ≤ v → ∀ x ∈ R.drop i, x.length ≤ 1048576) := by
  induction d with
  | zero =>
    intro i a hi h0 h1
    refine ⟨a, Ev.step (fun _ => rfl) ?_, Int.le_refl _, fun _ x hxx => ?_⟩
    · simp only [laws_szIntSS.l0]
      exact ev_neg (by omega) (ev_some rfl)
    · rw [List.drop_of_length_le (by omega)] at hxx
      cases hxx
  | succ d ih =>
    intro i a hi h0 h1
    have hg : i < R.length := by omega
    have hb := hx R[i] (List.getElem_mem hg)
    by_cases hs : a < (R[i]).length
    · refine ⟨-1, Ev.step (fun _ => rfl) ?_, by omega, fun h => by omega⟩
      simp only [laws_szIntSS.l0]
      rw [rdR_get hg]
      refine ev_pos (by omega) (ev_pos (by omega) (ev_bind0 (szIntS_is _ _ h0 h1 hb) ?_))
      rw [if_pos hs]
      exact ev_pos (by omega) (ev_some rfl)
    · obtain ⟨v, hv, hle, hall⟩ := ih (i + 1) (a - (R[i]).length) (by omega) (by omega) (by omega)
      refine ⟨v, Ev.step (fun _ => rfl) ?_, by omega, fun h x hxx => ?_⟩
      · simp only [laws_szIntSS.l0]
        rw [rdR_get hg, wsucc (by omega)]
        refine ev_pos (by omega) (ev_pos (by omega) (ev_bind0 (szIntS_is _ _ h0 h1 hb) ?_))
        rw [if_neg hs]
        exact ev_neg (by omega) hv
      · rw [List.drop_eq_getElem_cons hg] at hxx
        rcases List.mem_cons.1 hxx with rfl | hxx
        · omega
        · exact hall h x hxx
theorem szSketch_ev (c s mn mx : Int) (h r : List Int) (R : List (List Int)) (a : Int) (h0 : 0 ≤ a) (h1 : a ≤ 1048576) (hh : h.length ≤ 9223372036854775807) (hr : r.length ≤ 9223372036854775807) (hR : R.length ≤ 9223372036854775807) (hx : ∀ x ∈ R, x.length ≤ 9223372036854775807) :
    ∃ v, Ev (fun k => laws_szSketch.f k c s mn mx h r R a) v ∧ v ≤ a ∧ (0 ≤ v → h.length ≤ 1048576 ∧ r.length ≤ 1048576 ∧ R.length ≤ 1048576 ∧ ∀ x ∈ R, x.length ≤ 1048576) := by
  by_cases a1 : a < h.length
  · refine ⟨-1, ?_, by omega, fun h => by omega⟩
    unfold laws_szSketch.f
    refine ev_bind0 (szIntS_is h a h0 h1 hh) ?_
    rw [if_pos a1]
    exact ev_pos (by omega) (ev_some rfl)
  by_cases a2 : a - h.length < r.length
  · refine ⟨-1, ?_, by omega, fun h => by omega⟩
    unfold laws_szSketch.f
    refine ev_bind0 (szIntS_is h a h0 h1 hh) ?_
    rw [if_neg a1]
    refine ev_neg (by omega) (ev_bind0 (szIntS_is r _ (by omega) (by omega) hr) ?_)
    rw [if_pos a2]
    exact ev_pos (by omega) (ev_some rfl)
  by_cases a3 : a - h.length - r.length < R.length
  · refine ⟨-1, ?_, by omega, fun h => by omega⟩
    unfold laws_szSketch.f
    refine ev_bind0 (szIntS_is h a h0 h1 hh) ?_
    rw [if_neg a1]
    refine ev_neg (by omega) (ev_bind0 (szIntS_is r _ (by omega) (by omega) hr) ?_)
    rw [if_neg a2]
    refine ev_neg (by omega) (Ev.bind (a := -1) ?_ (ev_pos (by omega) (ev_some rfl)))
    unfold laws_szIntSS.f
    have e : wrap64 (a - h.length - r.length - R.length) = a - h.length - r.length - R.length := w64 (by omega) (by omega)
    rw [e]
    clear e
    exact ev_pos (by omega) (ev_some rfl)
  obtain ⟨v, hv, hle, hall⟩ := szIntSS_at R (by omega) hx R.length 0 (a - h.length - r.length - R.length) (by omega) (by omega) (by omega)
  rw [List.drop_zero] at hall
  have hin : Ev (fun k => laws_szIntSS.f k R (a - h.length - r.length)) v := by
    unfold laws_szIntSS.f
    have e : wrap64 (a - h.length - r.length - R.length) = a - h.length - r.length - R.length := w64 (by omega) (by omega)
    rw [e]
    clear e
    exact ev_neg (by omega) hv
  have hout : ∀ u, Ev (fun _ => if v < 0 then some (-1) else some v) u → Ev (fun k => laws_szSketch.f k c s mn mx h r R a) u := by
    intro u hu
    unfold laws_szSketch.f
    refine ev_bind0 (szIntS_is h a h0 h1 hh) ?_
    rw [if_neg a1]
    refine ev_neg (by omega) (ev_bind0 (szIntS_is r _ (by omega) (by omega) hr) ?_)
    rw [if_neg a2]
    exact ev_neg (by omega) (Ev.bind hin hu)
  by_cases hneg : v < 0
  · exact ⟨-1, hout _ (ev_pos hneg (ev_some rfl)), by omega, fun h => by omega⟩
  · exact ⟨v, hout _ (ev_neg hneg (ev_some rfl)), by omega, fun h => ⟨by omega, by omega, by omega, hall h⟩⟩
theorem eqIntSS_at (x0 : List (List Int)) (hn : x0.length ≤ 1048576) (hx : ∀ x ∈ x0, x.length ≤ 1048576) (d : Nat) : ∀ (i : Nat), i + d = x0.length →
    Ev (fun k => laws_eqIntSS.l0 k x0 x0 (i : Int)) true := by
  induction d with
  | zero =>
    intro i hi
    refine Ev.step (fun _ => rfl) ?_
    simp only [laws_eqIntSS.l0]
    refine ev_neg (by omega) (ev_some rfl)
  | succ d ih =>
    intro i hi
    refine Ev.step (fun _ => rfl) ?_
    simp only [laws_eqIntSS.l0]
    rw [wsucc (by omega), rdR_get (show i < x0.length by omega)]
    refine ev_pos (by omega) (ev_pos (by omega) (ev_pos (by omega) (Ev.bind (eqIntS_ev _ (hx _ (List.getElem_mem (by omega)))) (ev_pos (by trivial) ?_))))
    exact ih (i + 1) (by omega)
theorem eqIntSS_ev (x0 : List (List Int)) (hn : x0.length ≤ 1048576) (hx : ∀ x ∈ x0, x.length ≤ 1048576) : Ev (fun k => laws_eqIntSS.f k x0 x0) true := by
  unfold laws_eqIntSS.f
  exact ev_pos (by trivial) (eqIntSS_at x0 hn hx x0.length 0 (by omega))
theorem eqSketch_ev (c s mn mx : Int) (h r : List Int) (R : List (List Int)) (hh : h.length ≤ 1048576) (hr : r.length ≤ 1048576) (hR : R.length ≤ 1048576) (hx : ∀ x ∈ R, x.length ≤ 1048576) :
    Ev (fun k => laws_eqSketch.f k c s mn mx h r R c s mn mx h r R) true := by
  unfold laws_eqSketch.f
  refine ev_pos (by trivial) (ev_pos (by trivial) (ev_pos (by trivial) (ev_pos (by trivial) ?_)))
  exact Ev.bind (eqIntS_ev h hh) (ev_pos (by trivial) (Ev.bind (eqIntS_ev r hr) (ev_pos (by trivial) (Ev.bind (eqIntSS_ev R hR hx) (ev_pos (by trivial) (ev_some rfl))))))
theorem rdL_get {xs : List S79} {n : Nat} (h : n < xs.length) : rd_T79 xs (n : Int) = xs[n] := by
  unfold rd_T79
  rw [Int.toNat_natCast, List.getD_eq_getElem?_getD, List.getElem?_eq_getElem h]
  rfl
def cvSpan (x : S79) : S77 := ⟨x.f0, x.f1⟩
theorem toSpanS_at (x0 : List S79) (hn : x0.length ≤ 1048576) (d : Nat) : ∀ (i : Nat) (x3 : List S77), i + d = x0.length → x3.length = x0.length → x3.take i = (x0.map cvSpan).take i →
    Ev (fun k => laws_toSpanS.l0 k x0 x3 (i : Int)) (x0.map cvSpan) := by
  induction d with
  | zero =>
    intro i x3 hi hl ht
    refine Ev.step (fun _ => rfl) ?_
    simp only [laws_toSpanS.l0]
    exact ev_neg (by omega) (ev_some (take_all (by rw [hl, List.length_map]) (by rw [List.length_map]; omega) ht))
  | succ d ih =>
    intro i x3 hi hl ht
    refine Ev.step (fun _ => rfl) ?_
    simp only [laws_toSpanS.l0]
    refine ev_pos (by omega) (ev_pos (by omega) (ev_bind0 rfl (ev_pos (by omega) ?_)))
    rw [wsucc (by omega), rdL_get (show i < x0.length by omega), Int.toNat_natCast]
    have e : (⟨x0[i].f0, x0[i].f1⟩ : S77) = (x0.map cvSpan)[i]'(by rw [List.length_map]; omega) := by rw [List.getElem_map]; rfl
    rw [e]
    exact ih (i + 1) _ (by omega) (by rw [List.length_set]; exact hl) (take_set (ys := x0.map cvSpan) (by rw [hl, List.length_map]) (by rw [List.length_map]; omega) ht)
theorem toSpanS_ev (x0 : List S79) (hn : x0.length ≤ 1048576) : Ev (fun k => laws_toSpanS.f k x0) (x0.map cvSpan) := by
  unfold laws_toSpanS.f
  refine ev_pos (by omega) (ev_pos (by omega) ?_)
  exact toSpanS_at x0 hn x0.length 0 _ (by omega) (by simp) (by simp)
theorem szSpanS_is (l0 : List S79) (a : Int) (h0 : 0 ≤ a) (h1 : a ≤ 1048576) (hl : l0.length ≤ 9223372036854775807) : laws_szSpanS.f l0 a = some (if a < l0.length then -1 else a - l0.length) := by
  unfold laws_szSpanS.f
  rw [w64 (by omega) (by omega)]
  by_cases h : a < l0.length
  · rw [if_pos (by omega), if_pos h]
  · rw [if_neg (by omega), if_neg h]
theorem eqSpanS_at (x0 : List S77) (hn : x0.length ≤ 1048576) (d : Nat) : ∀ (i : Nat), i + d = x0.length →
    Ev (fun k => laws_eqSpanS.l0 k x0 x0 (i : Int)) true := by
  induction d with
  | zero =>
    intro i hi
    refine Ev.step (fun _ => rfl) ?_
    simp only [laws_eqSpanS.l0]
    exact ev_neg (by omega) (ev_some rfl)
  | succ d ih =>
    intro i hi
    refine Ev.step (fun _ => rfl) ?_
    simp only [laws_eqSpanS.l0]
    refine ev_pos (by omega) (ev_pos (by omega) (ev_pos (by omega) (ev_bind0 (a := true) (by unfold laws_eqSpan.f; rw [if_pos rfl, if_pos rfl]) (ev_pos (by trivial) ?_))))
    rw [wsucc (by omega)]
    exact ih (i + 1) (by omega)
theorem eqSpanS_ev (x0 : List S77) (hn : x0.length ≤ 1048576) : Ev (fun k => laws_eqSpanS.f k x0 x0) true := by
  unfold laws_eqSpanS.f
  exact ev_pos (by trivial) (eqSpanS_at x0 hn x0.length 0 (by omega))
theorem szEntry_ev (ke wi : Int) (ids : List S79) (c s mn mx : Int) (h r : List Int) (R : List (List Int)) (a : Int) (h0 : 0 ≤ a) (h1 : a ≤ 1048576) (hI : ids.length ≤ 9223372036854775807) (hh : h.length ≤ 9223372036854775807) (hr : r.length ≤ 9223372036854775807) (hR : R.length ≤ 9223372036854775807) (hx : ∀ x ∈ R, x.length ≤ 9223372036854775807) :
    ∃ v, Ev (fun k => laws_szEntry.f k ke wi ids c s mn mx h r R a) v ∧ v ≤ a ∧ (0 ≤ v → ids.length ≤ 1048576 ∧ h.length ≤ 1048576 ∧ r.length ≤ 1048576 ∧ R.length ≤ 1048576 ∧ ∀ x ∈ R, x.length ≤ 1048576) := by
  by_cases g0 : a < ids.length
  · refine ⟨-1, ?_, by omega, fun h => by omega⟩
    unfold laws_szEntry.f
    refine ev_bind0 (szSpanS_is ids a h0 h1 hI) ?_
    rw [if_pos g0]
    exact ev_pos (by omega) (ev_some rfl)
  obtain ⟨v, hv, hle, hall⟩ := szSketch_ev c s mn mx h r R (a - ids.length) (by omega) (by omega) hh hr hR hx
  by_cases g : v < 0
  · refine ⟨-1, ?_, by omega, fun h => by omega⟩
    unfold laws_szEntry.f
    refine ev_bind0 (szSpanS_is ids a h0 h1 hI) ?_
    rw [if_neg g0]
    exact ev_neg (by omega) (Ev.bind hv (ev_pos g (ev_some rfl)))
  · refine ⟨v, ?_, by omega, fun z => ⟨by omega, hall z⟩⟩
    unfold laws_szEntry.f
    refine ev_bind0 (szSpanS_is ids a h0 h1 hI) ?_
    rw [if_neg g0]
    exact ev_neg (by omega) (Ev.bind hv (ev_neg g (ev_some rfl)))
theorem toEntry_ev (ke wi : Int) (ids : List S79) (c s mn mx : Int) (h r : List Int) (R : List (List Int)) (hI : ids.length ≤ 1048576) (hh : h.length ≤ 1048576) (hr : r.length ≤ 1048576) (hR : R.length ≤ 1048576) (hx : ∀ x ∈ R, x.length ≤ 1048576) :
    Ev (fun k => laws_toEntry.f k ke wi ids c s mn mx h r R) (ke, wi, ids.map cvSpan, c, s, mn, mx, h, r, R) := by
  unfold laws_toEntry.f
  exact Ev.bind (toSpanS_ev ids hI) (Ev.bind (toSketch_ev c s mn mx h r R hh hr hR hx) (ev_some rfl))
theorem eqEntry_ev (ke wi : Int) (ids : List S77) (c s mn mx : Int) (h r : List Int) (R : List (List Int)) (hI : ids.length ≤ 1048576) (hh : h.length ≤ 1048576) (hr : r.length ≤ 1048576) (hR : R.length ≤ 1048576) (hx : ∀ x ∈ R, x.length ≤ 1048576) :
    Ev (fun k => laws_eqEntry.f k ke wi ids c s mn mx h r R ke wi ids c s mn mx h r R) true := by
  unfold laws_eqEntry.f
  exact ev_pos (by trivial) (ev_pos (by trivial) (Ev.bind (eqSpanS_ev ids hI) (ev_pos (by trivial) (Ev.bind (eqSketch_ev c s mn mx h r R hh hr hR hx) (ev_pos (by trivial) (ev_some rfl))))))
/-- Two lists alike, element by element. -/
def sameL {α : Type} (eq : α → α → Bool) : List α → List α → Bool
  | [], [] => true
  | x :: xs, y :: ys => eq x y && sameL eq xs ys
  | [], _ :: _ => false
  | _ :: _, [] => false
theorem sameL_len {α : Type} (eq : α → α → Bool) : ∀ a b : List α, a.length ≠ b.length → sameL eq a b = false
  | [], [], h => absurd rfl h
  | _ :: xs, _ :: ys, h => by
    have := sameL_len eq xs ys (by simpa using h)
    simp [sameL, this]
  | [], _ :: _, _ => rfl
  | _ :: _, [], _ => rfl
theorem sameL_at {α : Type} (eq : α → α → Bool) (a b : List α) (i : Nat) (h : i < a.length) (h1 : i < b.length) :
    sameL eq (a.drop i) (b.drop i) = (eq a[i] b[i] && sameL eq (a.drop (i + 1)) (b.drop (i + 1))) := by
  rw [List.drop_eq_getElem_cons h, List.drop_eq_getElem_cons h1]
  rfl
theorem sameL_end {α : Type} (eq : α → α → Bool) (a b : List α) (i : Nat) (h : a.length ≤ i) (h1 : b.length ≤ i) : sameL eq (a.drop i) (b.drop i) = true := by
  rw [List.drop_eq_nil_of_le h, List.drop_eq_nil_of_le h1]
  rfl
def eqI (x y : Int) : Bool := decide (x = y)
theorem spec_l1Same_at (a b : List Int) (hn : a.length ≤ 1048576) (hl : a.length = b.length) (d : Nat) : ∀ (i : Nat), i + d = a.length →
    Ev (fun k => spec_l1Same.l0 k a b (i : Int)) (sameL eqI (a.drop i) (b.drop i)) := by
  induction d with
  | zero =>
    intro i hi
    refine Ev.step (fun _ => rfl) ?_
    simp only [spec_l1Same.l0]
    exact ev_neg (by omega) (ev_some (sameL_end eqI a b i (by omega) (by omega)).symm)
  | succ d ih =>
    intro i hi
    refine Ev.step (fun _ => rfl) ?_
    simp only [spec_l1Same.l0]
    rw [sameL_at eqI a b i (by omega) (by omega), rd_get (show i < a.length by omega), rd_get (show i < b.length by omega), wsucc (by omega)]
    refine ev_pos (by omega) (ev_pos (by omega) (ev_pos (by omega) ?_))
    by_cases e : a[i]'(by omega) = b[i]'(by omega)
    · refine ev_pos e ?_
      rw [show eqI (a[i]'(by omega)) (b[i]'(by omega)) = true from decide_eq_true e, Bool.true_and]
      exact ih (i + 1) (by omega)
    · refine ev_neg e (ev_some ?_)
      rw [show eqI (a[i]'(by omega)) (b[i]'(by omega)) = false from decide_eq_false e, Bool.false_and]
theorem spec_l1Same_ev (a b : List Int) (hn : a.length ≤ 1048576) : Ev (fun k => spec_l1Same.f k a b) (sameL eqI a b) := by
  unfold spec_l1Same.f
  by_cases hl : a.length = b.length
  · exact ev_pos (by omega) (spec_l1Same_at a b hn hl a.length 0 (by omega))
  · exact ev_neg (by omega) (ev_some (sameL_len eqI a b hl).symm)
theorem slices_Equal_at (a b : List Int) (hn : a.length ≤ 1048576) (hl : a.length = b.length) (d : Nat) : ∀ (i : Nat), i + d = a.length →
    Ev (fun k => slices_Equal_int_int.l0 k a b (a.length : Int) (i : Int)) (sameL eqI (a.drop i) (b.drop i)) := by
  induction d with
  | zero =>
    intro i hi
    refine Ev.step (fun _ => rfl) ?_
    simp only [slices_Equal_int_int.l0]
    exact ev_neg (by omega) (ev_some (sameL_end eqI a b i (by omega) (by omega)).symm)
  | succ d ih =>
    intro i hi
    refine Ev.step (fun _ => rfl) ?_
    simp only [slices_Equal_int_int.l0]
    rw [sameL_at eqI a b i (by omega) (by omega), rd_get (show i < a.length by omega), rd_get (show i < b.length by omega), wsucc (by omega)]
    refine ev_pos (by omega) (ev_pos (by omega) (ev_pos (by omega) (ev_pos (by omega) ?_)))
    by_cases e : a[i]'(by omega) = b[i]'(by omega)
    · refine ev_pos e ?_
      rw [show eqI (a[i]'(by omega)) (b[i]'(by omega)) = true from decide_eq_true e, Bool.true_and]
      exact ih (i + 1) (by omega)
    · refine ev_neg e (ev_some ?_)
      rw [show eqI (a[i]'(by omega)) (b[i]'(by omega)) = false from decide_eq_false e, Bool.false_and]
theorem slices_Equal_ev (a b : List Int) (hn : a.length ≤ 1048576) : Ev (fun k => slices_Equal_int_int.f k a b) (sameL eqI a b) := by
  unfold slices_Equal_int_int.f
  by_cases hl : a.length = b.length
  · exact ev_pos (by omega) (slices_Equal_at a b hn hl a.length 0 (by omega))
  · exact ev_neg (by omega) (ev_some (sameL_len eqI a b hl).symm)
theorem slices_EqualFunc_at (a b : List (List Int)) (hx : ∀ x ∈ a, x.length ≤ 1048576) (hl : a.length = b.length) : ∀ (g i : Nat), i ≤ a.length → i + g = a.length + 1 →
    Ev (fun k => slices_EqualFunc_int_int_int_int.l0 g k a b i) (sameL (sameL eqI) (a.drop i) (b.drop i)) := by
  intro g
  induction g with
  | zero =>
    intro i hi0 hi
    exact absurd hi (by omega)
  | succ g ih =>
    intro i hi0 hi
    simp only [slices_EqualFunc_int_int_int_int.l0]
    by_cases h : i < a.length
    · simp only [dif_pos h, dif_pos (show i < b.length by omega)]
      rw [sameL_at (sameL eqI) a b i h (by omega)]
      refine Ev.bind (slices_Equal_ev _ _ (hx _ (List.getElem_mem h))) ?_
      cases e : sameL eqI a[i] (b[i]'(by omega)) with
      | true =>
        rw [Bool.true_and]
        exact ev_pos rfl (ih (i + 1) (by omega) (by omega))
      | false =>
        rw [Bool.false_and]
        exact ev_neg (by decide) (ev_some rfl)
    · simp only [dif_neg h]
      exact ev_some (sameL_end (sameL eqI) a b i (by omega) (by omega)).symm
theorem slices_EqualFunc_ev (a b : List (List Int)) (hx : ∀ x ∈ a, x.length ≤ 1048576) : Ev (fun k => slices_EqualFunc_int_int_int_int.f k a b) (sameL (sameL eqI) a b) := by
  unfold slices_EqualFunc_int_int_int_int.f
  by_cases hl : a.length = b.length
  · exact ev_pos hl (slices_EqualFunc_at a b hx hl (a.length + 1) 0 (by omega) (by omega))
  · exact ev_neg hl (ev_some (sameL_len (sameL eqI) a b hl).symm)
def skSame (c s mn mx : Int) (h r : List Int) (R : List (List Int)) (c' s' mn' mx' : Int) (h' r' : List Int) (R' : List (List Int)) : Bool :=
  decide (c = c') && (decide (s = s') && (decide (mn = mn') && (decide (mx = mx') && (sameL eqI h h' && (sameL eqI r r' && sameL (sameL eqI) R R')))))
theorem spec_sketchSame_at (R R' : List (List Int)) (hn : R.length ≤ 1048576) (hx : ∀ x ∈ R, x.length ≤ 1048576) (hl : R.length = R'.length) (c s mn mx : Int) (h r : List Int) (c' s' mn' mx' : Int) (h' r' : List Int) (d : Nat) : ∀ (i : Nat), i + d = R.length →
    Ev (fun k => spec_SketchSame.l0 k (i : Int) c s mn mx h r R c' s' mn' mx' h' r' R') (sameL (sameL eqI) (R.drop i) (R'.drop i)) := by
  induction d with
  | zero =>
    intro i hi
    refine Ev.step (fun _ => rfl) ?_
    simp only [spec_SketchSame.l0]
    exact ev_neg (by omega) (ev_some (sameL_end _ R R' i (by omega) (by omega)).symm)
  | succ d ih =>
    intro i hi
    refine Ev.step (fun _ => rfl) ?_
    simp only [spec_SketchSame.l0]
    rw [sameL_at _ R R' i (by omega) (by omega), rdR_get (show i < R.length by omega), rdR_get (show i < R'.length by omega), wsucc (by omega)]
    refine ev_pos (by omega) (ev_pos (by omega) (ev_pos (by omega) (Ev.bind (spec_l1Same_ev _ _ (hx _ (List.getElem_mem (by omega)))) ?_)))
    cases e : sameL eqI (R[i]'(by omega)) (R'[i]'(by omega)) with
    | true =>
      rw [Bool.true_and]
      exact ev_pos rfl (ih (i + 1) (by omega))
    | false =>
      rw [Bool.false_and]
      exact ev_neg (by decide) (ev_some rfl)
theorem spec_sketchSame_ev (c s mn mx : Int) (h r : List Int) (R : List (List Int)) (c' s' mn' mx' : Int) (h' r' : List Int) (R' : List (List Int)) (hh : h.length ≤ 1048576) (hr : r.length ≤ 1048576) (hR : R.length ≤ 1048576) (hx : ∀ x ∈ R, x.length ≤ 1048576) :
    Ev (fun k => spec_SketchSame.f k c s mn mx h r R c' s' mn' mx' h' r' R') (skSame c s mn mx h r R c' s' mn' mx' h' r' R') := by
  unfold spec_SketchSame.f skSame
  have stop : ∀ (b : Bool), b = false → Ev (fun k => spec_SketchSame.j0 k true c s mn mx h r R c' s' mn' mx' h' r' R') b := by
    intro b hb
    refine Ev.step (fun _ => rfl) ?_
    simp only [spec_SketchSame.j0]
    exact ev_pos (by trivial) (ev_some hb.symm)
  by_cases e1 : c = c'
  · by_cases e2 : s = s'
    · by_cases e3 : mn = mn'
      · by_cases e4 : mx = mx'
        · refine ev_pos e1 (ev_pos e2 (ev_pos e3 (ev_pos e4 (Ev.bind (spec_l1Same_ev _ _ hh) ?_))))
          rw [decide_eq_true e1, decide_eq_true e2, decide_eq_true e3, decide_eq_true e4]
          simp only [Bool.true_and]
          cases f1 : sameL eqI h h' with
          | false => exact ev_neg (by decide) (stop _ (by simp))
          | true =>
            refine ev_pos rfl (Ev.bind (spec_l1Same_ev _ _ hr) ?_)
            simp only [Bool.true_and]
            cases f2 : sameL eqI r r' with
            | false => exact ev_neg (by decide) (stop _ (by simp))
            | true =>
              refine ev_pos rfl ?_
              simp only [Bool.true_and]
              by_cases hl : R.length = R'.length
              · rw [show ((R.length : Int) != (R'.length : Int)) = false by simp [hl]]
                refine Ev.step (fun _ => rfl) ?_
                simp only [spec_SketchSame.j0]
                exact ev_neg (by decide) (spec_sketchSame_at R R' hR hx hl c s mn mx h r c' s' mn' mx' h' r' R.length 0 (by omega))
              · rw [show ((R.length : Int) != (R'.length : Int)) = true by simp; omega, sameL_len _ R R' hl]
                exact stop _ rfl
        · exact ev_pos e1 (ev_pos e2 (ev_pos e3 (ev_neg e4 (stop _ (by simp [e4])))))
      · exact ev_pos e1 (ev_pos e2 (ev_neg e3 (stop _ (by simp [e3]))))
    · exact ev_pos e1 (ev_neg e2 (stop _ (by simp [e2])))
  · exact ev_neg e1 (stop _ (by simp [e1]))
theorem impl_sketchSame_ev (c s mn mx : Int) (h r : List Int) (R : List (List Int)) (c' s' mn' mx' : Int) (h' r' : List Int) (R' : List (List Int)) (hh : h.length ≤ 1048576) (hr : r.length ≤ 1048576) (_hR : R.length ≤ 1048576) (hx : ∀ x ∈ R, x.length ≤ 1048576) :
    Ev (fun k => impl_SketchSame.f k c s mn mx h r R c' s' mn' mx' h' r' R') (skSame c s mn mx h r R c' s' mn' mx' h' r' R') := by
  unfold impl_SketchSame.f skSame
  by_cases e1 : c = c'
  · by_cases e2 : s = s'
    · by_cases e3 : mn = mn'
      · by_cases e4 : mx = mx'
        · refine ev_pos e1 (ev_pos e2 (ev_pos e3 (ev_pos e4 (Ev.bind (slices_Equal_ev _ _ hh) ?_))))
          rw [decide_eq_true e1, decide_eq_true e2, decide_eq_true e3, decide_eq_true e4]
          simp only [Bool.true_and]
          cases f1 : sameL eqI h h' with
          | false => exact ev_neg (by decide) (ev_some (by simp))
          | true =>
            refine ev_pos rfl (Ev.bind (slices_Equal_ev _ _ hr) ?_)
            simp only [Bool.true_and]
            cases f2 : sameL eqI r r' with
            | false => exact ev_neg (by decide) (ev_some (by simp))
            | true =>
              refine ev_pos rfl ?_
              simp only [Bool.true_and]
              exact Ev.bind (slices_EqualFunc_ev R R' hx) (ev_some rfl)
        · exact ev_pos e1 (ev_pos e2 (ev_pos e3 (ev_neg e4 (ev_some (by simp [e4])))))
      · exact ev_pos e1 (ev_pos e2 (ev_neg e3 (ev_some (by simp [e3]))))
    · exact ev_pos e1 (ev_neg e2 (ev_some (by simp [e2])))
  · exact ev_neg e1 (ev_some (by simp [e1]))
def eqSp (x y : S77) : Bool := decide (x.f0 = y.f0) && decide (x.f1 = y.f1)
theorem neSp (x y : S77) : (!(x.f0 == y.f0) || (!(x.f1 == y.f1))) = !(eqSp x y) := by
  unfold eqSp
  by_cases h0 : x.f0 = y.f0 <;> by_cases h1 : x.f1 = y.f1 <;> simp [h0, h1]
theorem spec_l5Same_at (a b : List S77) (hn : a.length ≤ 1048576) (hl : a.length = b.length) (d : Nat) : ∀ (i : Nat), i + d = a.length →
    Ev (fun k => spec_l5Same.l0 k a b (i : Int)) (sameL eqSp (a.drop i) (b.drop i)) := by
  induction d with
  | zero =>
    intro i hi
    refine Ev.step (fun _ => rfl) ?_
    simp only [spec_l5Same.l0]
    exact ev_neg (by omega) (ev_some (sameL_end eqSp a b i (by omega) (by omega)).symm)
  | succ d ih =>
    intro i hi
    refine Ev.step (fun _ => rfl) ?_
    simp only [spec_l5Same.l0]
    rw [sameL_at eqSp a b i (by omega) (by omega), rdI_get (show i < a.length by omega), rdI_get (show i < b.length by omega), wsucc (by omega), neSp]
    refine ev_pos (by omega) (ev_pos (by omega) (ev_pos (by omega) ?_))
    cases e : eqSp (a[i]'(by omega)) (b[i]'(by omega)) with
    | true =>
      rw [Bool.true_and]
      exact ev_neg (by decide) (ih (i + 1) (by omega))
    | false => exact ev_pos (by decide) (ev_some rfl)
theorem spec_l5Same_ev (a b : List S77) (hn : a.length ≤ 1048576) : Ev (fun k => spec_l5Same.f k a b) (sameL eqSp a b) := by
  unfold spec_l5Same.f
  by_cases hl : a.length = b.length
  · exact ev_pos (by omega) (spec_l5Same_at a b hn hl a.length 0 (by omega))
  · exact ev_neg (by omega) (ev_some (sameL_len eqSp a b hl).symm)
theorem impl_Span_at (a b : List S77) (hn : a.length ≤ 1048576) (hl : a.length = b.length) (d : Nat) : ∀ (i : Nat), i + d = a.length →
    Ev (fun k => impl_Span.l0 k a b (a.length : Int) (i : Int)) (sameL eqSp (a.drop i) (b.drop i)) := by
  induction d with
  | zero =>
    intro i hi
    refine Ev.step (fun _ => rfl) ?_
    simp only [impl_Span.l0]
    exact ev_neg (by omega) (ev_some (sameL_end eqSp a b i (by omega) (by omega)).symm)
  | succ d ih =>
    intro i hi
    refine Ev.step (fun _ => rfl) ?_
    simp only [impl_Span.l0]
    rw [sameL_at eqSp a b i (by omega) (by omega), rdI_get (show i < a.length by omega), rdI_get (show i < b.length by omega), wsucc (by omega), neSp]
    refine ev_pos (by omega) (ev_pos (by omega) (ev_pos (by omega) (ev_pos (by omega) ?_)))
    cases e : eqSp (a[i]'(by omega)) (b[i]'(by omega)) with
    | true =>
      rw [Bool.true_and]
      exact ev_neg (by decide) (ih (i + 1) (by omega))
    | false => exact ev_pos (by decide) (ev_some rfl)
theorem impl_Span_ev (a b : List S77) (hn : a.length ≤ 1048576) : Ev (fun k => impl_Span.f k a b) (sameL eqSp a b) := by
  unfold impl_Span.f
  by_cases hl : a.length = b.length
  · exact ev_pos (by omega) (impl_Span_at a b hn hl a.length 0 (by omega))
  · exact ev_neg (by omega) (ev_some (sameL_len eqSp a b hl).symm)
def enSame (ke wi : Int) (ids : List S77) (c s mn mx : Int) (h r : List Int) (R : List (List Int)) (ke' wi' : Int) (ids' : List S77) (c' s' mn' mx' : Int) (h' r' : List Int) (R' : List (List Int)) : Bool :=
  decide (ke = ke') && (decide (wi = wi') && (sameL eqSp ids ids' && skSame c s mn mx h r R c' s' mn' mx' h' r' R'))
theorem spec_entrySame_ev (ke wi : Int) (ids : List S77) (c s mn mx : Int) (h r : List Int) (R : List (List Int)) (ke' wi' : Int) (ids' : List S77) (c' s' mn' mx' : Int) (h' r' : List Int) (R' : List (List Int)) (hI : ids.length ≤ 1048576) (hh : h.length ≤ 1048576) (hr : r.length ≤ 1048576) (hR : R.length ≤ 1048576) (hx : ∀ x ∈ R, x.length ≤ 1048576) :
    Ev (fun k => spec_EntrySame.f k ke wi ids c s mn mx h r R ke' wi' ids' c' s' mn' mx' h' r' R') (enSame ke wi ids c s mn mx h r R ke' wi' ids' c' s' mn' mx' h' r' R') := by
  unfold spec_EntrySame.f enSame
  by_cases e1 : ke = ke'
  · by_cases e2 : wi = wi'
    · refine ev_pos e1 (ev_pos e2 (Ev.bind (spec_l5Same_ev _ _ hI) ?_))
      rw [decide_eq_true e1, decide_eq_true e2]
      simp only [Bool.true_and]
      cases f1 : sameL eqSp ids ids' with
      | false => exact ev_neg (by decide) (ev_some (by simp))
      | true =>
        refine ev_pos rfl ?_
        simp only [Bool.true_and]
        exact Ev.bind (spec_sketchSame_ev c s mn mx h r R c' s' mn' mx' h' r' R' hh hr hR hx) (ev_some rfl)
    · exact ev_pos e1 (ev_neg e2 (ev_some (by simp [e2])))
  · exact ev_neg e1 (ev_some (by simp [e1]))
theorem impl_entrySame_ev (ke wi : Int) (ids : List S77) (c s mn mx : Int) (h r : List Int) (R : List (List Int)) (ke' wi' : Int) (ids' : List S77) (c' s' mn' mx' : Int) (h' r' : List Int) (R' : List (List Int)) (hI : ids.length ≤ 1048576) (hh : h.length ≤ 1048576) (hr : r.length ≤ 1048576) (hR : R.length ≤ 1048576) (hx : ∀ x ∈ R, x.length ≤ 1048576) :
    Ev (fun k => impl_EntrySame.f k ke wi ids c s mn mx h r R ke' wi' ids' c' s' mn' mx' h' r' R') (enSame ke wi ids c s mn mx h r R ke' wi' ids' c' s' mn' mx' h' r' R') := by
  unfold impl_EntrySame.f enSame
  by_cases e1 : ke = ke'
  · by_cases e2 : wi = wi'
    · refine ev_pos e1 (ev_pos e2 (Ev.bind (impl_Span_ev _ _ hI) ?_))
      rw [decide_eq_true e1, decide_eq_true e2]
      simp only [Bool.true_and]
      cases f1 : sameL eqSp ids ids' with
      | false => exact ev_neg (by decide) (ev_some (by simp))
      | true =>
        refine ev_pos rfl ?_
        simp only [Bool.true_and]
        exact Ev.bind (impl_sketchSame_ev c s mn mx h r R c' s' mn' mx' h' r' R' hh hr hR hx) (ev_some rfl)
    · exact ev_pos e1 (ev_neg e2 (ev_some (by simp [e2])))
  · exact ev_neg e1 (ev_some (by simp [e1]))
theorem FnExactEntrySame : laws_FnExactEntrySame.Pure := by
  intro ke wi ids c s mn mx h r R ke' wi' ids' c' s' mn' mx' h' r' R' _ _ hI _ _ _ _ hh hr hR _ _ hI' _ _ _ _ hh' hr' hR'
  refine (?_ : Ev (fun k => laws_FnExactEntrySame.f k ke wi ids c s mn mx h r R ke' wi' ids' c' s' mn' mx' h' r' R') true).rounds
  unfold laws_FnExactEntrySame.f
  obtain ⟨w, hw, hle, hall⟩ := szEntry_ev ke wi ids c s mn mx h r R 1048576 (by omega) (by omega) hI.1 hh.1 hr.1 hR.1 (fun x hx => (hR.2 x hx).1)
  refine Ev.bind hw (ev_if (fun _ => ev_some rfl) (fun hneg => ?_))
  obtain ⟨b0, b1, b2, b3, b4⟩ := hall (by omega)
  obtain ⟨w', hw', hle', hall'⟩ := szEntry_ev ke' wi' ids' c' s' mn' mx' h' r' R' w (by omega) (by omega) hI'.1 hh'.1 hr'.1 hR'.1 (fun x hx => (hR'.2 x hx).1)
  refine Ev.bind hw' (ev_if (fun _ => ev_some rfl) (fun hneg' => ?_))
  obtain ⟨b0', b1', b2', b3', b4'⟩ := hall' (by omega)
  have b5 : (ids.map cvSpan).length ≤ 1048576 := by rw [List.length_map]; exact b0
  have b5' : (ids'.map cvSpan).length ≤ 1048576 := by rw [List.length_map]; exact b0'
  have T := toEntry_ev ke wi ids c s mn mx h r R b0 b1 b2 b3 b4
  have Q := eqEntry_ev ke wi (ids.map cvSpan) c s mn mx h r R b5 b1 b2 b3 b4
  have T' := toEntry_ev ke' wi' ids' c' s' mn' mx' h' r' R' b0' b1' b2' b3' b4'
  have Q' := eqEntry_ev ke' wi' (ids'.map cvSpan) c' s' mn' mx' h' r' R' b5' b1' b2' b3' b4'
  refine Ev.bind T (Ev.bind T' (Ev.bind (spec_entrySame_ev ke wi (ids.map cvSpan) c s mn mx h r R ke' wi' (ids'.map cvSpan) c' s' mn' mx' h' r' R' b5 b1 b2 b3 b4) (Ev.bind T (Ev.bind T' (Ev.bind (impl_entrySame_ev ke wi (ids.map cvSpan) c s mn mx h r R ke' wi' (ids'.map cvSpan) c' s' mn' mx' h' r' R' b5 b1 b2 b3 b4) (ev_neg (by simp) ?_))))))
  exact Ev.bind T (Ev.bind Q (ev_pos (by trivial) (Ev.bind T' (Ev.bind Q' (ev_pos (by trivial) (ev_some rfl))))))

end Go.Proofs.Ytnidahdhlocpnaa.Pure
