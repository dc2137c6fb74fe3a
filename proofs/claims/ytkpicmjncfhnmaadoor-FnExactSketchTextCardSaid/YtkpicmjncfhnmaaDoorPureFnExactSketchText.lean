/- SketchText of the program is SketchText of the reference, for all arguments, and leaves its argument as it was. -/
import Derived.Test.YtkpicmjncfhnmaaDoorPFnExactSketchTextx7
import Derived.Test.YtkpicmjncfhnmaaDoorAid
import Derived.Lib.ItoaLen
namespace Go.Proofs.YtkpicmjncfhnmaaDoor.Pure
open Go.RowKit Go.Proofs.YtkpicmjncfhnmaaDoor.PFnExactSketchText Go.Proofs.YtkpicmjncfhnmaaDoorW.PrintWords Go.Proofs.YtkpicmjncfhnmaaDoorW.PrintLast Go.Proofs.YtkpicmjncfhnmaaDoorW.PrintMore Go.Proofs.YtkpicmjncfhnmaaDoor.Aid

/-- The decimal digits of a number; none of zero. -/
def digs (u : Nat) : List UInt8 := if u = 0 then [] else Lib.decDigits u
theorem digs_step (u : Nat) (h : u ≠ 0) : digs u = digs (u / 10) ++ [UInt8.ofNat (48 + u % 10)] := by
  unfold digs
  rw [if_neg h, Lib.decDigits]
  by_cases h10 : u < 10
  · rw [dif_pos h10, if_pos (by omega), show u % 10 = u by omega]
    rfl
  · rw [dif_neg h10, if_neg (by omega)]
theorem digs_len (u : Nat) (h : u ≠ 0) : (digs u).length = (digs (u / 10)).length + 1 := by rw [digs_step u h]; simp
theorem bytes_app (a b : List UInt8) : (⟨a.toArray⟩ : ByteArray) ++ ⟨b.toArray⟩ = ⟨(a ++ b).toArray⟩ := by
  apply ByteArray.ext
  simp
theorem bytes_size (a : List UInt8) : (⟨a.toArray⟩ : ByteArray).size = a.length := by simp [ByteArray.size]
theorem spec_digits_at : ∀ (m u : Nat) (x : Int) (bb : Bool) (l : List UInt8), u ≤ m → u ≤ 9223372036854775808 → (x = (u : Int) ∧ u < 9223372036854775808 ∨ x = -(u : Int)) → (digs u).length + l.length ≤ 1000 →
    Ev (fun k => spec_Digits.l0 k x bb ⟨l.toArray⟩) ⟨((if bb = true then [45] else []) ++ (digs u ++ l)).toArray⟩ := by
  have done_ : ∀ (x : Int) (bb : Bool) (l : List UInt8), x = 0 → l.length ≤ 1000 → Ev (fun k => spec_Digits.l0 k x bb ⟨l.toArray⟩) ⟨((if bb = true then [45] else []) ++ (digs 0 ++ l)).toArray⟩ := by
    intro x bb l hx hl
    refine Ev.step (fun _ => rfl) ?_
    simp only [spec_Digits.l0]
    refine ev_pos hx ?_
    cases bb with
    | false => exact ev_neg (by simp) (ev_some (by simp [digs]))
    | true =>
      refine ev_pos rfl (ev_pos (by rw [bytes_size]; omega) (ev_some ?_))
      have := bytes_app [45] l
      simpa [digs] using this
  intro m
  induction m with
  | zero =>
    intro u x bb l hu _ hx hl
    obtain rfl : u = 0 := by omega
    exact done_ x bb l (by omega) (by omega)
  | succ m ih =>
    intro u x bb l hu hb hx hl
    by_cases h0 : u = 0
    · subst h0
      exact done_ x bb l (by omega) (by omega)
    have hL := digs_len u h0
    have h10 : u / 10 ≤ m := by omega
    have ih' := ih (u / 10) (Int.tdiv x 10) bb (UInt8.ofNat (48 + u % 10) :: l) h10 (by omega) (by
      rcases hx with ⟨rfl, hx⟩ | rfl
      · left
        rw [Int.tdiv_eq_ediv_of_nonneg (by omega)]
        omega
      · right
        rw [Int.neg_tdiv, Int.tdiv_eq_ediv_of_nonneg (by omega)]
        omega) (by simp only [List.length_cons]; omega)
    have hd : -9223372036854775808 ≤ Int.tdiv x 10 ∧ Int.tdiv x 10 ≤ 9223372036854775807 := by
      rcases hx with ⟨rfl, hx⟩ | rfl
      · rw [Int.tdiv_eq_ediv_of_nonneg (by omega)]
        omega
      · rw [Int.neg_tdiv, Int.tdiv_eq_ediv_of_nonneg (by omega)]
        omega
    have ht : Int.tmod x 10 = ((u % 10 : Nat) : Int) ∨ Int.tmod x 10 = -((u % 10 : Nat) : Int) := by
      rcases hx with ⟨rfl, hx⟩ | rfl
      · left
        rw [Int.tmod_eq_emod_of_nonneg (by omega)]
        omega
      · right
        rw [Int.neg_tmod, Int.tmod_eq_emod_of_nonneg (by omega)]
        omega
    have e : ∀ z : Int, z = ((48 + u % 10 : Nat) : Int) → strOfNums [z] = ⟨[UInt8.ofNat (48 + u % 10)].toArray⟩ := by
      rintro z rfl
      rfl
    have hr : (if bb = true then [45] else []) ++ (digs (u / 10) ++ UInt8.ofNat (48 + u % 10) :: l) = (if bb = true then [45] else []) ++ (digs u ++ l) := by
      rw [digs_step u h0]
      simp
    rw [hr] at ih'
    refine Ev.step (fun _ => rfl) ?_
    simp only [spec_Digits.l0, Option.bind_some]
    refine ev_neg (by omega) ?_
    rw [w64 (x := Int.tdiv x 10) hd.1 hd.2]
    generalize Int.tmod x 10 = t at ht
    have hm : u % 10 < 10 := Nat.mod_lt _ (by omega)
    generalize u % 10 = v at *
    refine ev_if (fun hn => ?_) (fun hn => ?_)
    · rw [w64 (x := -t) (by omega) (by omega), w64 (x := 48 + -t) (by omega) (by omega), e _ (by omega)]
      refine ev_pos (by rw [bytes_size, bytes_size]; simp only [List.length_cons, List.length_nil]; omega) ?_
      rw [bytes_app]
      exact ih'
    · rw [w64 (x := 48 + t) (by omega) (by omega), e _ (by omega)]
      refine ev_pos (by rw [bytes_size, bytes_size]; simp only [List.length_cons, List.length_nil]; omega) ?_
      rw [bytes_app]
      exact ih'
theorem spec_digits_ev (n : Int) (h0 : -9223372036854775808 ≤ n) (h1 : n ≤ 9223372036854775807) : Ev (fun k => spec_Digits.f k n) ⟨(Lib.itoa n).toArray⟩ := by
  unfold spec_Digits.f
  refine ev_if (fun h => ev_some ?_) (fun h => ?_)
  · subst h
    apply ByteArray.ext
    unfold Lib.itoa
    rw [if_neg (by omega), Lib.decDigits, dif_pos (by omega)]
    rfl
  · have hl := Lib.itoa_length_le n h0 h1
    have hi : Lib.itoa n = (if decide (n < 0) = true then [45] else []) ++ (digs n.natAbs ++ []) := by
      unfold Lib.itoa digs
      have hz : ¬ n.natAbs = 0 := by omega
      by_cases hn : n < 0
      · rw [if_pos hn, if_neg hz, decide_eq_true hn, if_pos rfl]
        simp
      · rw [if_neg hn, if_neg hz, decide_eq_false hn, if_neg (by simp), show n.toNat = n.natAbs by omega]
        simp
    rw [hi] at hl ⊢
    simp only [List.length_append] at hl
    exact spec_digits_at n.natAbs n.natAbs n (decide (n < 0)) [] (by omega) (by omega) (by omega) (by simp only [List.length_nil]; omega)
theorem impl_digits_is (n : Int) (h0 : -9223372036854775808 ≤ n) (h1 : n ≤ 9223372036854775807) : impl_Digits.f n = some ⟨(Lib.itoa n).toArray⟩ := by
  unfold impl_Digits.f
  rw [if_pos ⟨h0, h1⟩]
theorem within_is (a b c : Int) : impl_within.f a b c = some (decide (b ≤ a ∧ a ≤ c)) := in_is a b c
theorem l1In_is (a b c : Int) : spec_l1In.f a b c = some (decide (b ≤ a ∧ a ≤ c)) := in_is a b c
theorem rdR_get {xs : List (List Int)} {n : Nat} (h : n < xs.length) : rd_L1 xs (n : Int) = xs[n] := by
  unfold rd_L1
  rw [Int.toNat_natCast, List.getD_eq_getElem?_getD, List.getElem?_eq_getElem h]
  rfl
theorem toIntS_at (x0 : List Int) (hn : x0.length ≤ 1048576) (d : Nat) : ∀ (i : Nat) (x3 : List Int), i + d = x0.length → x3.length = x0.length → x3.take i = x0.take i →
    Ev (fun k => laws_toIntS.l0 k x0 x3 (i : Int)) x0 := by
  induction d with
  | zero =>
    intro i x3 hi hl ht
    refine Ev.step (fun _ => rfl) ?_
    simp only [laws_toIntS.l0]
    refine ev_neg (by omega) (ev_some (take_all hl (by omega) ht))
  | succ d ih =>
    intro i x3 hi hl ht
    refine Ev.step (fun _ => rfl) ?_
    simp only [laws_toIntS.l0]
    refine ev_pos (by omega) (ev_pos (by omega) (ev_pos (by omega) ?_))
    rw [wsucc (by omega), rd_get (show i < x0.length by omega), Int.toNat_natCast]
    exact ih (i + 1) _ (by omega) (by simp [hl]) (take_set hl (by omega) ht)
theorem toIntS_ev (x0 : List Int) (hn : x0.length ≤ 1048576) : Ev (fun k => laws_toIntS.f k x0) x0 := by
  unfold laws_toIntS.f
  refine ev_pos (by omega) (ev_pos (by omega) ?_)
  exact toIntS_at x0 hn x0.length 0 _ (by omega) (by simp) (by simp)
theorem eqIntS_at (x0 : List Int) (hn : x0.length ≤ 1048576) (d : Nat) : ∀ (i : Nat), i + d = x0.length →
    Ev (fun k => laws_eqIntS.l0 k x0 x0 (i : Int)) true := by
  induction d with
  | zero =>
    intro i hi
    refine Ev.step (fun _ => rfl) ?_
    simp only [laws_eqIntS.l0]
    refine ev_neg (by omega) (ev_some rfl)
  | succ d ih =>
    intro i hi
    refine Ev.step (fun _ => rfl) ?_
    simp only [laws_eqIntS.l0]
    refine ev_pos (by omega) (ev_pos (by omega) (ev_pos (by omega) (ev_pos (by trivial) ?_)))
    rw [wsucc (by omega)]
    exact ih (i + 1) (by omega)
theorem eqIntS_ev (x0 : List Int) (hn : x0.length ≤ 1048576) : Ev (fun k => laws_eqIntS.f k x0 x0) true := by
  unfold laws_eqIntS.f
  exact ev_pos (by trivial) (eqIntS_at x0 hn x0.length 0 (by omega))
theorem toIntSS_at (x0 : List (List Int)) (hn : x0.length ≤ 1048576) (hx : ∀ x ∈ x0, x.length ≤ 1048576) (d : Nat) : ∀ (i : Nat) (x3 : List (List Int)), i + d = x0.length → x3.length = x0.length → x3.take i = x0.take i →
    Ev (fun k => laws_toIntSS.l0 k x0 x3 (i : Int)) x0 := by
  induction d with
  | zero =>
    intro i x3 hi hl ht
    refine Ev.step (fun _ => rfl) ?_
    simp only [laws_toIntSS.l0]
    refine ev_neg (by omega) (ev_some (take_all hl (by omega) ht))
  | succ d ih =>
    intro i x3 hi hl ht
    refine Ev.step (fun _ => rfl) ?_
    simp only [laws_toIntSS.l0]
    rw [wsucc (by omega), rdR_get (show i < x0.length by omega), Int.toNat_natCast]
    refine ev_pos (by omega) (ev_pos (by omega) (Ev.bind (toIntS_ev _ (hx _ (List.getElem_mem (by omega)))) (ev_pos (by omega) ?_)))
    exact ih (i + 1) _ (by omega) (by simp [hl]) (take_set hl (by omega) ht)
theorem toIntSS_ev (x0 : List (List Int)) (hn : x0.length ≤ 1048576) (hx : ∀ x ∈ x0, x.length ≤ 1048576) : Ev (fun k => laws_toIntSS.f k x0) x0 := by
  unfold laws_toIntSS.f
  refine ev_pos (by omega) (ev_pos (by omega) ?_)
  exact toIntSS_at x0 hn hx x0.length 0 _ (by omega) (by simp) (by simp)
theorem toSketch_ev (c s mn mx : Int) (h r : List Int) (R : List (List Int)) (hh : h.length ≤ 1048576) (hr : r.length ≤ 1048576) (hR : R.length ≤ 1048576) (hx : ∀ x ∈ R, x.length ≤ 1048576) :
    Ev (fun k => laws_toSketch.f k c s mn mx h r R) (c, s, mn, mx, h, r, R) := by
  unfold laws_toSketch.f
  exact Ev.bind (toIntS_ev h hh) (Ev.bind (toIntS_ev r hr) (Ev.bind (toIntSS_ev R hR hx) (ev_some rfl)))
theorem szIntS_is (l0 : List Int) (a : Int) (h0 : 0 ≤ a) (h1 : a ≤ 1048576) (hl : l0.length ≤ 9223372036854775807) : laws_szIntS.f l0 a = some (if a < l0.length then -1 else a - l0.length) := by
  unfold laws_szIntS.f
  rw [w64 (by omega) (by omega)]
  by_cases h : a < l0.length
  · rw [if_pos (by omega), if_pos h]
  · rw [if_neg (by omega), if_neg h]
theorem szIntSS_at (R : List (List Int)) (hR : R.length ≤ 1048576) (hx : ∀ x ∈ R, x.length ≤ 9223372036854775807) (d : Nat) : ∀ (i : Nat) (a : Int), i + d = R.length → 0 ≤ a → a ≤ 1048576 →
    ∃ v, Ev (fun k => laws_szIntSS.l0 k R a (i : Int)) v ∧ v ≤ a ∧ (0 ≤ v → ∀ x ∈ R.drop i, x.length ≤ 1048576) := by
  induction d with
  | zero =>
    intro i a hi h0 h1
    refine ⟨a, Ev.step (fun _ => rfl) ?_, Int.le_refl _, fun _ x hxx => ?_⟩
    · simp only [laws_szIntSS.l0]
      exact ev_neg (by omega) (ev_some rfl)
    · rw [List.drop_of_length_le (by omega)] at hxx
      cases hxx
  | succ d ih =>
    intro i a hi h0 h1
    have hg : i < R.length := by omega
    have hb := hx R[i] (List.getElem_mem hg)
    by_cases hs : a < (R[i]).length
    · refine ⟨-1, Ev.step (fun _ => rfl) ?_, by omega, fun h => by omega⟩
      simp only [laws_szIntSS.l0]
      rw [rdR_get hg]
      refine ev_pos (by omega) (ev_pos (by omega) (ev_bind0 (szIntS_is _ _ h0 h1 hb) ?_))
      rw [if_pos hs]
      exact ev_pos (by omega) (ev_some rfl)
    · obtain ⟨v, hv, hle, hall⟩ := ih (i + 1) (a - (R[i]).length) (by omega) (by omega) (by omega)
      refine ⟨v, Ev.step (fun _ => rfl) ?_, by omega, fun h x hxx => ?_⟩
      · simp only [laws_szIntSS.l0]
        rw [rdR_get hg, wsucc (by omega)]
        refine ev_pos (by omega) (ev_pos (by omega) (ev_bind0 (szIntS_is _ _ h0 h1 hb) ?_))
        rw [if_neg hs]
        exact ev_neg (by omega) hv
      · rw [List.drop_eq_getElem_cons hg] at hxx
        rcases List.mem_cons.1 hxx with rfl | hxx
        · omega
        · exact hall h x hxx
theorem szSketch_ev (c s mn mx : Int) (h r : List Int) (R : List (List Int)) (a : Int) (h0 : 0 ≤ a) (h1 : a ≤ 1048576) (hh : h.length ≤ 9223372036854775807) (hr : r.length ≤ 9223372036854775807) (hR : R.length ≤ 9223372036854775807) (hx : ∀ x ∈ R, x.length ≤ 9223372036854775807) :
    ∃ v, Ev (fun k => laws_szSketch.f k c s mn mx h r R a) v ∧ v ≤ a ∧ (0 ≤ v → h.length ≤ 1048576 ∧ r.length ≤ 1048576 ∧ R.length ≤ 1048576 ∧ ∀ x ∈ R, x.length ≤ 1048576) := by
  by_cases a1 : a < h.length
  · refine ⟨-1, ?_, by omega, fun h => by omega⟩
    unfold laws_szSketch.f
    refine ev_bind0 (szIntS_is h a h0 h1 hh) ?_
    rw [if_pos a1]
    exact ev_pos (by omega) (ev_some rfl)
  by_cases a2 : a - h.length < r.length
  · refine ⟨-1, ?_, by omega, fun h => by omega⟩
    unfold laws_szSketch.f
    refine ev_bind0 (szIntS_is h a h0 h1 hh) ?_
    rw [if_neg a1]
    refine ev_neg (by omega) (ev_bind0 (szIntS_is r _ (by omega) (by omega) hr) ?_)
    rw [if_pos a2]
    exact ev_pos (by omega) (ev_some rfl)
  by_cases a3 : a - h.length - r.length < R.length
  · refine ⟨-1, ?_, by omega, fun h => by omega⟩
    unfold laws_szSketch.f
    refine ev_bind0 (szIntS_is h a h0 h1 hh) ?_
    rw [if_neg a1]
    refine ev_neg (by omega) (ev_bind0 (szIntS_is r _ (by omega) (by omega) hr) ?_)
    rw [if_neg a2]
    refine ev_neg (by omega) (Ev.bind (a := -1) ?_ (ev_pos (by omega) (ev_some rfl)))
    unfold laws_szIntSS.f
    have e : wrap64 (a - h.length - r.length - R.length) = a - h.length - r.length - R.length := w64 (by omega) (by omega)
    rw [e]
    clear e
    exact ev_pos (by omega) (ev_some rfl)
  obtain ⟨v, hv, hle, hall⟩ := szIntSS_at R (by omega) hx R.length 0 (a - h.length - r.length - R.length) (by omega) (by omega) (by omega)
  rw [List.drop_zero] at hall
  have hin : Ev (fun k => laws_szIntSS.f k R (a - h.length - r.length)) v := by
    unfold laws_szIntSS.f
    have e : wrap64 (a - h.length - r.length - R.length) = a - h.length - r.length - R.length := w64 (by omega) (by omega)
    rw [e]
    clear e
    exact ev_neg (by omega) hv
  have hout : ∀ u, Ev (fun _ => if v < 0 then some (-1) else some v) u → Ev (fun k => laws_szSketch.f k c s mn mx h r R a) u := by
    intro u hu
    unfold laws_szSketch.f
    refine ev_bind0 (szIntS_is h a h0 h1 hh) ?_
    rw [if_neg a1]
    refine ev_neg (by omega) (ev_bind0 (szIntS_is r _ (by omega) (by omega) hr) ?_)
    rw [if_neg a2]
    exact ev_neg (by omega) (Ev.bind hin hu)
  by_cases hneg : v < 0
  · exact ⟨-1, hout _ (ev_pos hneg (ev_some rfl)), by omega, fun h => by omega⟩
  · exact ⟨v, hout _ (ev_neg hneg (ev_some rfl)), by omega, fun h => ⟨by omega, by omega, by omega, hall h⟩⟩
theorem eqIntSS_at (x0 : List (List Int)) (hn : x0.length ≤ 1048576) (hx : ∀ x ∈ x0, x.length ≤ 1048576) (d : Nat) : ∀ (i : Nat), i + d = x0.length →
    Ev (fun k => laws_eqIntSS.l0 k x0 x0 (i : Int)) true := by
  induction d with
  | zero =>
    intro i hi
    refine Ev.step (fun _ => rfl) ?_
    simp only [laws_eqIntSS.l0]
    refine ev_neg (by omega) (ev_some rfl)
  | succ d ih =>
    intro i hi
    refine Ev.step (fun _ => rfl) ?_
    simp only [laws_eqIntSS.l0]
    rw [wsucc (by omega), rdR_get (show i < x0.length by omega)]
    refine ev_pos (by omega) (ev_pos (by omega) (ev_pos (by omega) (Ev.bind (eqIntS_ev _ (hx _ (List.getElem_mem (by omega)))) (ev_pos (by trivial) ?_))))
    exact ih (i + 1) (by omega)
theorem eqIntSS_ev (x0 : List (List Int)) (hn : x0.length ≤ 1048576) (hx : ∀ x ∈ x0, x.length ≤ 1048576) : Ev (fun k => laws_eqIntSS.f k x0 x0) true := by
  unfold laws_eqIntSS.f
  exact ev_pos (by trivial) (eqIntSS_at x0 hn hx x0.length 0 (by omega))
theorem eqSketch_ev (c s mn mx : Int) (h r : List Int) (R : List (List Int)) (hh : h.length ≤ 1048576) (hr : r.length ≤ 1048576) (hR : R.length ≤ 1048576) (hx : ∀ x ∈ R, x.length ≤ 1048576) :
    Ev (fun k => laws_eqSketch.f k c s mn mx h r R c s mn mx h r R) true := by
  unfold laws_eqSketch.f
  refine ev_pos (by trivial) (ev_pos (by trivial) (ev_pos (by trivial) (ev_pos (by trivial) ?_)))
  exact Ev.bind (eqIntS_ev h hh) (ev_pos (by trivial) (Ev.bind (eqIntS_ev r hr) (ev_pos (by trivial) (Ev.bind (eqIntSS_ev R hR hx) (ev_pos (by trivial) (ev_some rfl))))))
/-- A list of so many numbers from 0 to a most, all 0 where that is asked. -/
def LiOk (xs : List Int) (n : Nat) (most : Int) (zero : Prop) : Prop := xs.length = n ∧ ∀ x ∈ xs, (0 ≤ x ∧ x ≤ most) ∧ (zero → x = 0)
/-- A summary is right. -/
def SkOk (c s mn mx : Int) (h r : List Int) (R : List (List Int)) : Prop :=
  (0 ≤ c ∧ c ≤ 1000000000) ∧ (0 ≤ s ∧ s ≤ 1000000000) ∧ (0 ≤ mn ∧ mn ≤ 1000000) ∧ (0 ≤ mx ∧ mx ≤ 1000000) ∧ mn ≤ mx ∧ R.length = 2 ∧ (c = 0 → s = 0 ∧ mx = 0) ∧
  LiOk h 8 1000000000 (c = 0) ∧ LiOk r 8 17 (c = 0) ∧ LiOk (rd_L1 R 0) 4 1000000000 (c = 0) ∧ LiOk (rd_L1 R 1) 4 1000000000 (c = 0)
noncomputable def skOk (c s mn mx : Int) (h r : List Int) (R : List (List Int)) : Bool := @decide (SkOk c s mn mx h r R) (Classical.propDecidable _)
theorem skOk_true {c s mn mx : Int} {h r : List Int} {R : List (List Int)} : skOk c s mn mx h r R = true ↔ SkOk c s mn mx h r R := by
  unfold skOk
  exact @decide_eq_true_iff _ (Classical.propDecidable _)
theorem skOk_false {c s mn mx : Int} {h r : List Int} {R : List (List Int)} (hn : ¬ SkOk c s mn mx h r R) : skOk c s mn mx h r R = false := by
  cases e : skOk c s mn mx h r R with
  | false => rfl
  | true => exact absurd (skOk_true.1 e) hn
theorem l3List_at (xs : List Int) (n : Nat) (most : Int) (z : Bool) (hn : n ≤ 8) (hl : xs.length = n) (r : Bool) (d : Nat) : ∀ i : Nat, i + d = n →
    ((∀ x ∈ xs.drop i, (0 ≤ x ∧ x ≤ most) ∧ (z = true → x = 0)) → r = true) → (¬ (∀ x ∈ xs.drop i, (0 ≤ x ∧ x ≤ most) ∧ (z = true → x = 0)) → r = false) →
    Ev (fun k => spec_l3List.l0 k xs (n : Int) most z (i : Int)) r := by
  induction d with
  | zero =>
    intro i hi h1 _
    refine Ev.step (fun _ => rfl) ?_
    simp only [spec_l3List.l0]
    refine ev_neg (by omega) (ev_some ?_)
    rw [h1]
    intro x hx
    rw [List.drop_of_length_le (by omega)] at hx
    cases hx
  | succ d ih =>
    intro i hi h1 h2
    have hg : i < xs.length := by omega
    rw [List.drop_eq_getElem_cons hg] at h1 h2
    refine Ev.step (fun _ => rfl) ?_
    simp only [spec_l3List.l0]
    rw [wsucc (by omega), rd_get hg]
    refine ev_pos (by omega) (ev_pos (by omega) (ev_pos (by omega) (ev_bind0 (l1In_is _ _ _) ?_)))
    by_cases c : 0 ≤ xs[i] ∧ xs[i] ≤ most
    · refine ev_pos (decide_eq_true c) ?_
      have hrec : (z = true → xs[i] = 0) → Ev (fun k => spec_l3List.l0 k xs (n : Int) most z ((i + 1 : Nat) : Int)) r := by
        intro hz
        refine ih (i + 1) (by omega) (fun h => h1 fun x hx => ?_) (fun h => h2 fun g => h fun x hx => g x (List.mem_cons_of_mem _ hx))
        rcases List.mem_cons.1 hx with rfl | hx
        · exact ⟨c, hz⟩
        · exact h x hx
      by_cases hz : z = true
      · refine ev_pos hz ?_
        by_cases h0 : xs[i] = 0
        · exact ev_pos h0 (hrec fun _ => h0)
        · refine ev_neg h0 (ev_some ?_)
          exact (h2 fun g => h0 ((g _ List.mem_cons_self).2 hz)).symm
      · exact ev_neg hz (hrec fun h => absurd h hz)
    · refine ev_neg (by rw [decide_eq_false c]; exact Bool.false_ne_true) (ev_some ?_)
      exact (h2 fun g => c (g _ List.mem_cons_self).1).symm
theorem l3List_ev (xs : List Int) (n : Nat) (most : Int) (z : Bool) (hn : n ≤ 8) (r : Bool) (h1 : LiOk xs n most (z = true) → r = true) (h2 : ¬ LiOk xs n most (z = true) → r = false) : Ev (fun k => spec_l3List.f k xs (n : Int) most z) r := by
  unfold spec_l3List.f
  by_cases hl : xs.length = n
  · exact ev_pos (by omega) (l3List_at xs n most z hn hl r n 0 (by omega) (fun h => h1 ⟨hl, h⟩) (fun h => h2 fun g => h g.2))
  · exact ev_neg (by omega) (ev_some (h2 fun g => hl g.1).symm)
theorem l3List_dec (xs : List Int) (n : Nat) (most : Int) (z : Bool) (hn : n ≤ 8) (Z : Prop) (hz : (z = true) = Z) : Ev (fun k => spec_l3List.f k xs (n : Int) most z) (@decide (LiOk xs n most Z) (Classical.propDecidable _)) := by
  subst hz
  exact l3List_ev xs n most z hn _ (fun h => @decide_eq_true _ (Classical.propDecidable _) h) (fun h => @decide_eq_false _ (Classical.propDecidable _) h)
theorem spec_sketchOk_j1 (c s mn mx : Int) (h r : List Int) (R : List (List Int)) (hR : R.length = 2) (f : Bool) (v : Bool)
    (hv : f = false → LiOk h 8 1000000000 (c = 0) → LiOk r 8 17 (c = 0) → LiOk (rd_L1 R 0) 4 1000000000 (c = 0) → LiOk (rd_L1 R 1) 4 1000000000 (c = 0) → v = true)
    (hn : ¬ (f = false ∧ LiOk h 8 1000000000 (c = 0) ∧ LiOk r 8 17 (c = 0) ∧ LiOk (rd_L1 R 0) 4 1000000000 (c = 0) ∧ LiOk (rd_L1 R 1) 4 1000000000 (c = 0)) → v = false) :
    Ev (fun k => spec_SketchOk.j1 k (c == 0) f c s mn mx h r R) v := by
  have ez : ((c == 0) = true) = (c = 0) := by simp
  refine Ev.step (fun _ => rfl) ?_
  simp only [spec_SketchOk.j1]
  refine ev_if (fun hf => ev_some (hn fun g => by rw [hf] at g; exact absurd g.1 (by simp)).symm) (fun hf => ?_)
  have hf' : f = false := by simpa using hf
  have L := fun xs n most hn => l3List_dec xs n most (c == 0) hn (c = 0) ez
  refine Ev.bind (L h 8 1000000000 (by omega)) ?_
  refine ev_if (fun g1 => ?_) (fun g1 => ev_some (hn fun g => g1 (@decide_eq_true _ (Classical.propDecidable _) g.2.1)).symm)
  refine Ev.bind (L r 8 17 (by omega)) ?_
  refine ev_if (fun g2 => ?_) (fun g2 => ev_some (hn fun g => g2 (@decide_eq_true _ (Classical.propDecidable _) g.2.2.1)).symm)
  refine ev_pos (by omega) (Ev.bind (L (rd_L1 R 0) 4 1000000000 (by omega)) ?_)
  refine ev_if (fun g3 => ?_) (fun g3 => ev_some (hn fun g => g3 (@decide_eq_true _ (Classical.propDecidable _) g.2.2.2.1)).symm)
  refine ev_pos (by omega) (Ev.bind (L (rd_L1 R 1) 4 1000000000 (by omega)) (ev_some ?_))
  have t1 := @of_decide_eq_true _ (Classical.propDecidable _) g1
  have t2 := @of_decide_eq_true _ (Classical.propDecidable _) g2
  have t3 := @of_decide_eq_true _ (Classical.propDecidable _) g3
  by_cases t4 : LiOk (rd_L1 R 1) 4 1000000000 (c = 0)
  · rw [hv hf' t1 t2 t3 t4]
    exact @decide_eq_true _ (Classical.propDecidable _) t4
  · rw [hn fun g => t4 g.2.2.2.2]
    exact @decide_eq_false _ (Classical.propDecidable _) t4
theorem spec_sketchOk_ev (c s mn mx : Int) (h r : List Int) (R : List (List Int)) : Ev (fun k => spec_SketchOk.f k c s mn mx h r R) (skOk c s mn mx h r R) := by
  have bad : ¬ SkOk c s mn mx h r R → Ev (fun k => spec_SketchOk.j0 k true c s mn mx h r R) (skOk c s mn mx h r R) := by
    intro hb
    refine Ev.step (fun _ => rfl) ?_
    simp only [spec_SketchOk.j0]
    exact ev_pos (by trivial) (ev_some (skOk_false hb).symm)
  unfold spec_SketchOk.f
  refine ev_bind0 (l1In_is _ _ _) ?_
  by_cases a1 : 0 ≤ c ∧ c ≤ 1000000000
  case neg => exact ev_neg (by rw [decide_eq_false a1]; exact Bool.false_ne_true) (bad fun g => a1 g.1)
  refine ev_pos (decide_eq_true a1) (ev_bind0 (l1In_is _ _ _) ?_)
  by_cases a2 : 0 ≤ s ∧ s ≤ 1000000000
  case neg => exact ev_neg (by rw [decide_eq_false a2]; exact Bool.false_ne_true) (bad fun g => a2 g.2.1)
  refine ev_pos (decide_eq_true a2) (ev_bind0 (l1In_is _ _ _) ?_)
  by_cases a3 : 0 ≤ mn ∧ mn ≤ 1000000
  case neg => exact ev_neg (by rw [decide_eq_false a3]; exact Bool.false_ne_true) (bad fun g => a3 g.2.2.1)
  refine ev_pos (decide_eq_true a3) (ev_bind0 (l1In_is _ _ _) ?_)
  by_cases a4 : 0 ≤ mx ∧ mx ≤ 1000000
  case neg => exact ev_neg (by rw [decide_eq_false a4]; exact Bool.false_ne_true) (bad fun g => a4 g.2.2.2.1)
  refine ev_pos (decide_eq_true a4) ?_
  by_cases a5 : mn ≤ mx
  case neg => exact ev_pos (by omega) (bad fun g => a5 g.2.2.2.2.1)
  refine ev_neg (by omega) ?_
  by_cases a6 : R.length = 2
  case neg =>
    have e : ((R.length : Int) != 2) = true := by simp; omega
    rw [e]
    exact bad fun g => a6 g.2.2.2.2.2.1
  have e : ((R.length : Int) != 2) = false := by simp; omega
  rw [e]
  refine Ev.step (fun _ => rfl) ?_
  simp only [spec_SketchOk.j0]
  refine ev_neg (by simp) ?_
  have fin : ∀ f : Bool, (f = false ↔ (c = 0 → s = 0 ∧ mx = 0)) → Ev (fun k => spec_SketchOk.j1 k (c == 0) f c s mn mx h r R) (skOk c s mn mx h r R) := by
    intro f hf
    refine spec_sketchOk_j1 c s mn mx h r R a6 f _ (fun g1 g2 g3 g4 g5 => skOk_true.2 ⟨a1, a2, a3, a4, a5, a6, hf.1 g1, g2, g3, g4, g5⟩) (fun g => skOk_false fun q => g ⟨hf.2 q.2.2.2.2.2.2.1, q.2.2.2.2.2.2.2⟩)
  refine ev_if (fun z => ?_) (fun z => fin false ⟨fun _ h => absurd h z, fun _ => rfl⟩)
  refine ev_if (fun z2 => fin _ ?_) (fun z2 => fin true ⟨fun h => by simp at h, fun h => absurd (h z).1 z2⟩)
  constructor
  · intro h _
    exact ⟨z2, by simpa using h⟩
  · intro h
    simpa using (h z).2
theorem sum_bd (ys : List Int) (h : ∀ x ∈ ys, 0 ≤ x ∧ x ≤ 1000000000) : 0 ≤ ys.sum ∧ ys.sum ≤ ys.length * 1000000000 := by
  induction ys with
  | nil => simp
  | cons y ys ih =>
    have h1 := h y List.mem_cons_self
    have h2 := ih fun x hx => h x (List.mem_cons_of_mem _ hx)
    rw [List.sum_cons, List.length_cons]
    omega
theorem sum_zero (ys : List Int) (h : ∀ x ∈ ys, 0 ≤ x ∧ x ≤ 1000000000) (h0 : ys.sum = 0) : ∀ x ∈ ys, x = 0 := by
  induction ys with
  | nil => exact fun x hx => by cases hx
  | cons y ys ih =>
    intro x hx
    have h1 := h y List.mem_cons_self
    have h2 := sum_bd ys fun x hx => h x (List.mem_cons_of_mem _ hx)
    rw [List.sum_cons] at h0
    rcases List.mem_cons.1 hx with rfl | hx
    · omega
    · exact ih (fun x hx => h x (List.mem_cons_of_mem _ hx)) (by omega) x hx
theorem zero_sum (ys : List Int) (h : ∀ x ∈ ys, x = 0) : ys.sum = 0 := by
  induction ys with
  | nil => rfl
  | cons y ys ih =>
    rw [List.sum_cons, h y List.mem_cons_self, ih fun x hx => h x (List.mem_cons_of_mem _ hx)]
    rfl
theorem copyInts_is (xs : List Int) (h : xs.length ≤ 1048576) : impl_copyInts.f xs = some xs := by
  unfold impl_copyInts.f
  rw [if_pos (by simp; omega)]
  rfl
theorem counts_ev (c s mn mx : Int) (h r A B : List Int) (hh : h.length ≤ 8) (hr : r.length ≤ 8) (hA : A.length ≤ 8) (hB : B.length ≤ 8) :
    Ev (fun k => impl_counts.f k c s mn mx h r [A, B]) (((h ++ r) ++ A) ++ B) := by
  unfold impl_counts.f
  refine ev_bind0 (copyInts_is h (by omega)) (ev_pos (by omega) ?_)
  refine Ev.step (fun _ => rfl) ?_
  simp only [impl_counts.l0]
  refine ev_pos (by simp) (ev_pos (by simp) (ev_pos (by simp) ?_))
  have e0 : rd_L1 [A, B] 0 = A := rfl
  have w1 : wrap64 (0 + 1) = 1 := by unfold wrap64; omega
  have w2 : wrap64 (1 + 1) = 2 := by unfold wrap64; omega
  have e1 : rd_L1 [A, B] (wrap64 (0 + 1)) = B := by rw [w1]; rfl
  refine ev_pos (by rw [e0]; simp; omega) ?_
  refine Ev.step (fun _ => rfl) ?_
  simp only [impl_counts.l0]
  refine ev_pos (by rw [w1]; simp) (ev_pos (by rw [w1]; omega) (ev_pos (by rw [w1]; simp) ?_))
  refine ev_pos (by rw [e0, e1]; simp; omega) ?_
  refine Ev.step (fun _ => rfl) ?_
  simp only [impl_counts.l0]
  exact ev_neg (by rw [w1, w2]; simp) (ev_some (by rw [e0, e1]))
theorem impl_sketchOk_l1 (c s mn mx : Int) (h r : List Int) (R : List (List Int)) (v : Bool) (t : Int) (hr : r.length ≤ 8) (d : Nat) : ∀ i : Nat, i + d = r.length →
    ((∀ x ∈ r.drop i, x ≤ 17) → v = if c = 0 then (t == 0) else decide (mn ≤ mx ∧ mx ≤ 1000000)) → (¬ (∀ x ∈ r.drop i, x ≤ 17) → v = false) →
    Ev (fun k => impl_SketchOk.l1 k t r (r.length : Int) (i : Int) c s mn mx h r R) v := by
  induction d with
  | zero =>
    intro i hi h1 _
    refine Ev.step (fun _ => rfl) ?_
    simp only [impl_SketchOk.l1]
    refine ev_neg (by omega) ?_
    rw [h1 (fun x hx => by rw [List.drop_of_length_le (by omega)] at hx; cases hx)]
    by_cases hc : c = 0
    · exact ev_pos hc (ev_some (by rw [if_pos hc]))
    · refine ev_neg hc (ev_if (fun g => ev_some ?_) (fun g => ev_some (by rw [if_neg hc]; exact (decide_eq_false fun q => g q.1).symm)))
      rw [if_neg hc]
      exact decide_eq_decide.mpr ⟨fun x => ⟨g, x⟩, fun x => x.2⟩
  | succ d ih =>
    intro i hi h1 h2
    have hg : i < r.length := by omega
    rw [List.drop_eq_getElem_cons hg] at h1 h2
    refine Ev.step (fun _ => rfl) ?_
    simp only [impl_SketchOk.l1]
    rw [wsucc (by omega), rd_get hg]
    refine ev_pos (by omega) (ev_pos (by omega) (ev_pos (by omega) ?_))
    by_cases g : r[i] > 17
    · exact ev_pos g (ev_some (h2 fun q => by have := q _ List.mem_cons_self; omega).symm)
    · refine ev_neg g (ih (i + 1) (by omega) (fun q => h1 fun x hx => ?_) (fun q => h2 fun p => q fun x hx => p x (List.mem_cons_of_mem _ hx)))
      rcases List.mem_cons.1 hx with rfl | hx
      · omega
      · exact q x hx
theorem impl_sketchOk_l0 (c s mn mx : Int) (h r : List Int) (R : List (List Int)) (v : Bool) (ys : List Int) (hy : ys.length ≤ 100) (d : Nat) : ∀ (i : Nat) (t : Int), i + d = ys.length → 0 ≤ t → t ≤ (i : Int) * 1000000000 →
    ((∀ x ∈ ys.drop i, 0 ≤ x ∧ x ≤ 1000000000) → Ev (fun k => impl_SketchOk.l1 k (t + (ys.drop i).sum) r (r.length : Int) 0 c s mn mx h r R) v) → (¬ (∀ x ∈ ys.drop i, 0 ≤ x ∧ x ≤ 1000000000) → v = false) →
    Ev (fun k => impl_SketchOk.l0 k t ys (ys.length : Int) (i : Int) c s mn mx h r R) v := by
  induction d with
  | zero =>
    intro i t hi h0 ht h1 _
    refine Ev.step (fun _ => rfl) ?_
    simp only [impl_SketchOk.l0]
    refine ev_neg (by omega) ?_
    rw [List.drop_of_length_le (by omega)] at h1
    have := h1 (fun x hx => by cases hx)
    rw [List.sum_nil, Int.add_zero] at this
    exact this
  | succ d ih =>
    intro i t hi h0 ht h1 h2
    have hg : i < ys.length := by omega
    rw [List.drop_eq_getElem_cons hg] at h1 h2
    refine Ev.step (fun _ => rfl) ?_
    simp only [impl_SketchOk.l0]
    rw [wsucc (by omega), rd_get hg]
    refine ev_pos (by omega) (ev_pos (by omega) (ev_pos (by omega) (ev_bind0 (within_is _ _ _) ?_)))
    by_cases g : 0 ≤ ys[i] ∧ ys[i] ≤ 1000000000
    · refine ev_pos (decide_eq_true g) ?_
      rw [w64 (x := t + ys[i]) (by omega) (by omega)]
      refine ih (i + 1) _ (by omega) (by omega) (by omega) (fun q => ?_) (fun q => h2 fun p => q fun x hx => p x (List.mem_cons_of_mem _ hx))
      rw [Int.add_assoc, ← List.sum_cons]
      refine h1 fun x hx => ?_
      rcases List.mem_cons.1 hx with rfl | hx
      · exact g
      · exact q x hx
    · exact ev_neg (by rw [decide_eq_false g]; exact Bool.false_ne_true) (ev_some (h2 fun q => g (q _ List.mem_cons_self)).symm)
theorem impl_sketchOk_ev (c s mn mx : Int) (h r : List Int) (R : List (List Int)) : Ev (fun k => impl_SketchOk.f k c s mn mx h r R) (skOk c s mn mx h r R) := by
  have bad : ¬ SkOk c s mn mx h r R → Ev (fun k => impl_SketchOk.j0 k true c s mn mx h r R) (skOk c s mn mx h r R) := by
    intro hb
    refine Ev.step (fun _ => rfl) ?_
    simp only [impl_SketchOk.j0]
    exact ev_pos (by trivial) (ev_some (skOk_false hb).symm)
  unfold impl_SketchOk.f
  by_cases a1 : h.length = 8
  case neg => exact ev_neg (by omega) (bad fun g => a1 g.2.2.2.2.2.2.2.1.1)
  refine ev_pos (by omega) ?_
  by_cases a2 : r.length = 8
  case neg => exact ev_neg (by omega) (bad fun g => a2 g.2.2.2.2.2.2.2.2.1.1)
  refine ev_pos (by omega) ?_
  by_cases a3 : R.length = 2
  case neg => exact ev_neg (by omega) (bad fun g => a3 g.2.2.2.2.2.1)
  refine ev_pos (by omega) (ev_pos (by omega) ?_)
  by_cases a4 : (rd_L1 R 0).length = 4
  case neg => exact ev_neg (by omega) (bad fun g => a4 g.2.2.2.2.2.2.2.2.2.1.1)
  refine ev_pos (by omega) (ev_pos (by omega) ?_)
  by_cases a5 : (rd_L1 R 1).length = 4
  case neg =>
    have e : (((rd_L1 R 1).length : Int) != 4) = true := by simp; omega
    rw [e]
    exact bad fun g => a5 g.2.2.2.2.2.2.2.2.2.2.1
  have e : (((rd_L1 R 1).length : Int) != 4) = false := by simp; omega
  rw [e]
  clear e bad
  obtain ⟨A, B, rfl⟩ : ∃ A B, R = [A, B] := by
    match R, a3 with
    | [A, B], _ => exact ⟨A, B, rfl⟩
  have eA : rd_L1 [A, B] 0 = A := rfl
  have eB : rd_L1 [A, B] 1 = B := rfl
  rw [eA] at a4
  rw [eB] at a5
  refine Ev.step (fun _ => rfl) ?_
  simp only [impl_SketchOk.j0]
  refine ev_neg (by simp) (Ev.bind (counts_ev c s mn mx h r A B (by omega) (by omega) (by omega) (by omega)) (ev_bind0 rfl (ev_pos ?_ (ev_bind0 rfl ?_))))
  · simp only [List.length_append, List.length_cons, List.length_nil]
    omega
  generalize hys : (((h ++ r) ++ A) ++ B) ++ [c, s, mn, mx] = ys
  have hyl : ys.length = 28 := by
    rw [← hys]
    simp only [List.length_append, List.length_cons, List.length_nil]
    omega
  have hmem : ∀ P : Int → Prop, (∀ x ∈ ys, P x) ↔ (∀ x ∈ h, P x) ∧ (∀ x ∈ r, P x) ∧ (∀ x ∈ A, P x) ∧ (∀ x ∈ B, P x) ∧ P c ∧ P s ∧ P mn ∧ P mx := by
    intro P
    rw [← hys]
    constructor
    · intro q
      exact ⟨fun x hx => q x (by simp [hx]), fun x hx => q x (by simp [hx]), fun x hx => q x (by simp [hx]), fun x hx => q x (by simp [hx]), q c (by simp), q s (by simp), q mn (by simp), q mx (by simp)⟩
    · rintro ⟨q1, q2, q3, q4, q5, q6, q7, q8⟩ x hx
      simp only [List.mem_append, List.mem_cons, List.not_mem_nil, or_false] at hx
      rcases hx with (((hx | hx) | hx) | hx) | rfl | rfl | rfl | rfl
      · exact q1 x hx
      · exact q2 x hx
      · exact q3 x hx
      · exact q4 x hx
      · exact q5
      · exact q6
      · exact q7
      · exact q8
  refine impl_sketchOk_l0 c s mn mx h r [A, B] _ ys (by omega) 28 0 0 (by omega) (by omega) (by omega) (fun q => ?_) (fun q => skOk_false fun g => q ?_)
  · rw [List.drop_zero] at q
    rw [List.drop_zero, Int.zero_add]
    have qq := (hmem _).1 q
    refine impl_sketchOk_l1 c s mn mx h r [A, B] _ ys.sum (by omega) 8 0 (by omega) (fun p => ?_) (fun p => skOk_false fun g => p fun x hx => ?_)
    · rw [List.drop_zero] at p
      by_cases hc : c = 0
      · rw [if_pos hc]
        by_cases hz : ys.sum = 0
        · have z := (hmem _).1 (sum_zero ys q hz)
          have e : (ys.sum == 0) = true := by simpa using hz
          rw [e]
          refine skOk_true.2 ⟨by omega, by omega, by omega, by omega, by omega, rfl, fun _ => ⟨z.2.2.2.2.2.1, z.2.2.2.2.2.2.2⟩, ⟨a1, fun x hx => ⟨qq.1 x hx, fun _ => z.1 x hx⟩⟩, ⟨a2, fun x hx => ⟨⟨(qq.2.1 x hx).1, p x hx⟩, fun _ => z.2.1 x hx⟩⟩, ⟨a4, fun x hx => ⟨qq.2.2.1 x hx, fun _ => z.2.2.1 x hx⟩⟩, ⟨a5, fun x hx => ⟨qq.2.2.2.1 x hx, fun _ => z.2.2.2.1 x hx⟩⟩⟩
        · have e : (ys.sum == 0) = false := by simpa using hz
          rw [e]
          refine skOk_false fun g => hz (zero_sum ys ((hmem _).2 ?_))
          obtain ⟨g1, g2, g3, g4, g5, g6, g7, g8, g9, g10, g11⟩ := g
          have := g7 hc
          exact ⟨fun x hx => (g8.2 x hx).2 hc, fun x hx => (g9.2 x hx).2 hc, fun x hx => (g10.2 x hx).2 hc, fun x hx => (g11.2 x hx).2 hc, hc, this.1, by omega, this.2⟩
      · rw [if_neg hc]
        by_cases hm : mn ≤ mx ∧ mx ≤ 1000000
        · rw [decide_eq_true hm]
          refine skOk_true.2 ⟨qq.2.2.2.2.1, qq.2.2.2.2.2.1, by omega, by omega, hm.1, rfl, fun z => absurd z hc, ⟨a1, fun x hx => ⟨qq.1 x hx, fun z => absurd z hc⟩⟩, ⟨a2, fun x hx => ⟨⟨(qq.2.1 x hx).1, p x hx⟩, fun z => absurd z hc⟩⟩, ⟨a4, fun x hx => ⟨qq.2.2.1 x hx, fun z => absurd z hc⟩⟩, ⟨a5, fun x hx => ⟨qq.2.2.2.1 x hx, fun z => absurd z hc⟩⟩⟩
        · rw [decide_eq_false hm]
          exact skOk_false fun g => hm ⟨g.2.2.2.2.1, g.2.2.2.1.2⟩
    · rw [List.drop_zero] at hx
      exact (g.2.2.2.2.2.2.2.2.1.2 x hx).1.2
  · rw [List.drop_zero]
    obtain ⟨g1, g2, g3, g4, g5, g6, g7, g8, g9, g10, g11⟩ := g
    exact (hmem _).2 ⟨fun x hx => (g8.2 x hx).1, fun x hx => by have := (g9.2 x hx).1; omega, fun x hx => (g10.2 x hx).1, fun x hx => (g11.2 x hx).1, g1, g2, by omega, by omega⟩
theorem itoa_size (n : Int) (h : -9223372036854775808 ≤ n ∧ n ≤ 9223372036854775807) : (⟨(Lib.itoa n).toArray⟩ : ByteArray).size ≤ 21 := by
  rw [bytes_size]
  exact Lib.itoa_length_le n h.1 h.2
theorem sp_size : (⟨#[32]⟩ : ByteArray).size = 1 := rfl
theorem sketchText_all (c s mn mx : Int) (h r : List Int) (R : List (List Int)) (hc : -9223372036854775808 ≤ c ∧ c ≤ 9223372036854775807) (hs : -9223372036854775808 ≤ s ∧ s ≤ 9223372036854775807) (hn : -9223372036854775808 ≤ mn ∧ mn ≤ 9223372036854775807) (hx : -9223372036854775808 ≤ mx ∧ mx ≤ 9223372036854775807) :
    ∃ t, Ev (fun k => spec_SketchText.f k c s mn mx h r R) t ∧ Ev (fun k => impl_SketchText.f k c s mn mx h r R) t := by
  unfold spec_SketchText.f impl_SketchText.f
  by_cases hok : skOk c s mn mx h r R = true
  · have e1 := spec_digits_ev c hc.1 hc.2
    have e2 := spec_digits_ev s hs.1 hs.2
    have e3 := spec_digits_ev mn hn.1 hn.2
    have e4 := spec_digits_ev mx hx.1 hx.2
    have d1 := impl_digits_is c hc.1 hc.2
    have d2 := impl_digits_is s hs.1 hs.2
    have d3 := impl_digits_is mn hn.1 hn.2
    have d4 := impl_digits_is mx hx.1 hx.2
    have z1 := itoa_size c hc
    have z2 := itoa_size s hs
    have z3 := itoa_size mn hn
    have z4 := itoa_size mx hx
    generalize (⟨(Lib.itoa c).toArray⟩ : ByteArray) = t1 at *
    generalize (⟨(Lib.itoa s).toArray⟩ : ByteArray) = t2 at *
    generalize (⟨(Lib.itoa mn).toArray⟩ : ByteArray) = t3 at *
    generalize (⟨(Lib.itoa mx).toArray⟩ : ByteArray) = t4 at *
    have zs : ∀ a b : ByteArray, (a ++ b).size = a.size + b.size := fun a b => by simp
    refine ⟨_, Ev.bind (spec_sketchOk_ev c s mn mx h r R) (ev_pos hok (Ev.bind e1 (ev_pos (by omega) (Ev.bind e2 (ev_pos ?_ (ev_pos ?_ (Ev.bind e3 (ev_pos ?_ (ev_pos ?_ (Ev.bind e4 (ev_pos ?_ (ev_some rfl)))))))))))), Ev.bind (impl_sketchOk_ev c s mn mx h r R) (ev_pos hok (ev_bind0 d1 (ev_pos (by omega) (ev_bind0 d2 (ev_pos ?_ (ev_pos ?_ (ev_bind0 d3 (ev_pos ?_ (ev_pos ?_ (ev_bind0 d4 (ev_pos ?_ (ev_some rfl))))))))))))⟩ <;> (simp only [zs, sp_size]; omega)
  · exact ⟨_, Ev.bind (spec_sketchOk_ev c s mn mx h r R) (ev_neg hok (ev_some rfl)), Ev.bind (impl_sketchOk_ev c s mn mx h r R) (ev_neg hok (ev_some rfl))⟩
theorem FnExactSketchText : laws_FnExactSketchText.Pure := by
  intro c s mn mx h r R hc hs hn hx hh hr hR
  refine (?_ : Ev (fun k => laws_FnExactSketchText.f k c s mn mx h r R) true).rounds
  obtain ⟨v, hv, hle, hall⟩ := szSketch_ev c s mn mx h r R 1048576 (by omega) (by omega) hh.1 hr.1 hR.1 (fun x hx => (hR.2 x hx).1)
  unfold laws_FnExactSketchText.f
  refine Ev.bind hv (ev_if (fun _ => ev_some rfl) (fun hneg => ?_))
  obtain ⟨b1, b2, b3, b4⟩ := hall (by omega)
  have T := toSketch_ev c s mn mx h r R b1 b2 b3 b4
  obtain ⟨t, e1, e2⟩ := sketchText_all c s mn mx h r R hc hs hn hx
  refine Ev.bind T (Ev.bind e1 (Ev.bind T (Ev.bind e2 (ev_pos rfl (Ev.bind T (Ev.bind (eqSketch_ev c s mn mx h r R b1 b2 b3 b4) (ev_pos (by trivial) (ev_some rfl))))))))

end Go.Proofs.YtkpicmjncfhnmaaDoor.Pure
