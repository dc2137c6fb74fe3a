/- Number of the program is Number of the reference, for all texts. -/
import Derived.Test.YtkpicmjncfhnmaaDoorPFnExactNumberx1
import Derived.Test.YtkpicmjncfhnmaaDoorAid
import Derived.Lib.ItoaLen
namespace Go.Proofs.YtkpicmjncfhnmaaDoor.Pure
open Go.RowKit Go.Proofs.YtkpicmjncfhnmaaDoor.PFnExactNumber Go.Proofs.YtkpicmjncfhnmaaDoorW.PrintWords Go.Proofs.YtkpicmjncfhnmaaDoorW.PrintLast Go.Proofs.YtkpicmjncfhnmaaDoorW.PrintMore Go.Proofs.YtkpicmjncfhnmaaDoor.Aid

/-- The decimal digits of a number; none of zero. -/
def digs (u : Nat) : List UInt8 := if u = 0 then [] else Lib.decDigits u
theorem digs_step (u : Nat) (h : u ≠ 0) : digs u = digs (u / 10) ++ [UInt8.ofNat (48 + u % 10)] := by
  unfold digs
  rw [if_neg h, Lib.decDigits]
  by_cases h10 : u < 10
  · rw [dif_pos h10, if_pos (by omega), show u % 10 = u by omega]
    rfl
  · rw [dif_neg h10, if_neg (by omega)]
theorem digs_len (u : Nat) (h : u ≠ 0) : (digs u).length = (digs (u / 10)).length + 1 := by rw [digs_step u h]; simp
theorem bytes_app (a b : List UInt8) : (⟨a.toArray⟩ : ByteArray) ++ ⟨b.toArray⟩ = ⟨(a ++ b).toArray⟩ := by
  apply ByteArray.ext
  simp
theorem bytes_size (a : List UInt8) : (⟨a.toArray⟩ : ByteArray).size = a.length := by simp [ByteArray.size]
theorem spec_digits_at : ∀ (m u : Nat) (x : Int) (bb : Bool) (l : List UInt8), u ≤ m → u ≤ 9223372036854775808 → (x = (u : Int) ∧ u < 9223372036854775808 ∨ x = -(u : Int)) → (digs u).length + l.length ≤ 1000 →
    Ev (fun k => spec_Digits.l0 k x bb ⟨l.toArray⟩) ⟨((if bb = true then [45] else []) ++ (digs u ++ l)).toArray⟩ := by
  have done_ : ∀ (x : Int) (bb : Bool) (l : List UInt8), x = 0 → l.length ≤ 1000 → Ev (fun k => spec_Digits.l0 k x bb ⟨l.toArray⟩) ⟨((if bb = true then [45] else []) ++ (digs 0 ++ l)).toArray⟩ := by
    intro x bb l hx hl
    refine Ev.step (fun _ => rfl) ?_
    simp only [spec_Digits.l0]
    refine ev_pos hx ?_
    cases bb with
    | false => exact ev_neg (by simp) (ev_some (by simp [digs]))
    | true =>
      refine ev_pos rfl (ev_pos (by rw [bytes_size]; omega) (ev_some ?_))
      have := bytes_app [45] l
      simpa [digs] using this
  intro m
  induction m with
  | zero =>
    intro u x bb l hu _ hx hl
    obtain rfl : u = 0 := by omega
    exact done_ x bb l (by omega) (by omega)
  | succ m ih =>
    intro u x bb l hu hb hx hl
    by_cases h0 : u = 0
    · subst h0
      exact done_ x bb l (by omega) (by omega)
    have hL := digs_len u h0
    have h10 : u / 10 ≤ m := by omega
    have ih' := ih (u / 10) (Int.tdiv x 10) bb (UInt8.ofNat (48 + u % 10) :: l) h10 (by omega) (by
      rcases hx with ⟨rfl, hx⟩ | rfl
      · left
        rw [Int.tdiv_eq_ediv_of_nonneg (by omega)]
        omega
      · right
        rw [Int.neg_tdiv, Int.tdiv_eq_ediv_of_nonneg (by omega)]
        omega) (by simp only [List.length_cons]; omega)
    have hd : -9223372036854775808 ≤ Int.tdiv x 10 ∧ Int.tdiv x 10 ≤ 9223372036854775807 := by
      rcases hx with ⟨rfl, hx⟩ | rfl
      · rw [Int.tdiv_eq_ediv_of_nonneg (by omega)]
        omega
      · rw [Int.neg_tdiv, Int.tdiv_eq_ediv_of_nonneg (by omega)]
        omega
    have ht : Int.tmod x 10 = ((u % 10 : Nat) : Int) ∨ Int.tmod x 10 = -((u % 10 : Nat) : Int) := by
      rcases hx with ⟨rfl, hx⟩ | rfl
      · left
        rw [Int.tmod_eq_emod_of_nonneg (by omega)]
        omega
      · right
        rw [Int.neg_tmod, Int.tmod_eq_emod_of_nonneg (by omega)]
        omega
    have e : ∀ z : Int, z = ((48 + u % 10 : Nat) : Int) → strOfNums [z] = ⟨[UInt8.ofNat (48 + u % 10)].toArray⟩ := by
      rintro z rfl
      rfl
    have hr : (if bb = true then [45] else []) ++ (digs (u / 10) ++ UInt8.ofNat (48 + u % 10) :: l) = (if bb = true then [45] else []) ++ (digs u ++ l) := by
      rw [digs_step u h0]
      simp
    rw [hr] at ih'
    refine Ev.step (fun _ => rfl) ?_
    simp only [spec_Digits.l0, Option.bind_some]
    refine ev_neg (by omega) ?_
    rw [w64 (x := Int.tdiv x 10) hd.1 hd.2]
    generalize Int.tmod x 10 = t at ht
    have hm : u % 10 < 10 := Nat.mod_lt _ (by omega)
    generalize u % 10 = v at *
    refine ev_if (fun hn => ?_) (fun hn => ?_)
    · rw [w64 (x := -t) (by omega) (by omega), w64 (x := 48 + -t) (by omega) (by omega), e _ (by omega)]
      refine ev_pos (by rw [bytes_size, bytes_size]; simp only [List.length_cons, List.length_nil]; omega) ?_
      rw [bytes_app]
      exact ih'
    · rw [w64 (x := 48 + t) (by omega) (by omega), e _ (by omega)]
      refine ev_pos (by rw [bytes_size, bytes_size]; simp only [List.length_cons, List.length_nil]; omega) ?_
      rw [bytes_app]
      exact ih'
theorem spec_digits_ev (n : Int) (h0 : -9223372036854775808 ≤ n) (h1 : n ≤ 9223372036854775807) : Ev (fun k => spec_Digits.f k n) ⟨(Lib.itoa n).toArray⟩ := by
  unfold spec_Digits.f
  refine ev_if (fun h => ev_some ?_) (fun h => ?_)
  · subst h
    apply ByteArray.ext
    unfold Lib.itoa
    rw [if_neg (by omega), Lib.decDigits, dif_pos (by omega)]
    rfl
  · have hl := Lib.itoa_length_le n h0 h1
    have hi : Lib.itoa n = (if decide (n < 0) = true then [45] else []) ++ (digs n.natAbs ++ []) := by
      unfold Lib.itoa digs
      have hz : ¬ n.natAbs = 0 := by omega
      by_cases hn : n < 0
      · rw [if_pos hn, if_neg hz, decide_eq_true hn, if_pos rfl]
        simp
      · rw [if_neg hn, if_neg hz, decide_eq_false hn, if_neg (by simp), show n.toNat = n.natAbs by omega]
        simp
    rw [hi] at hl ⊢
    simp only [List.length_append] at hl
    exact spec_digits_at n.natAbs n.natAbs n (decide (n < 0)) [] (by omega) (by omega) (by omega) (by simp only [List.length_nil]; omega)
theorem impl_digits_is (n : Int) (h0 : -9223372036854775808 ≤ n) (h1 : n ≤ 9223372036854775807) : impl_Digits.f n = some ⟨(Lib.itoa n).toArray⟩ := by
  unfold impl_Digits.f
  rw [if_pos ⟨h0, h1⟩]
theorem number_at (s : ByteArray) (hs : s.size ≤ 6) : ∀ (m i v : Nat), i + m = s.size → v + 1 ≤ 10 ^ i → ∃ r, Ev (fun k => spec_Number.l0 k s (v : Int) (i : Int)) r ∧ Ev (fun k => impl_Number.l0 k s (v : Int) (i : Int)) r := by
  intro m
  induction m with
  | zero =>
    intro i v hi hv
    have hp : 10 ^ i ≤ 10 ^ 6 := Nat.pow_le_pow_right (by omega) (by omega)
    have h6 : (10 : Nat) ^ 6 = 1000000 := by decide
    have hd := spec_digits_ev (v : Int) (by omega) (by omega)
    have hm := impl_digits_is (v : Int) (by omega) (by omega)
    generalize (⟨(Lib.itoa (v : Int)).toArray⟩ : ByteArray) = t at hd hm
    by_cases hc : t.toList = s.toList
    · refine ⟨((v : Int), true), ?_, ?_⟩
      · refine Ev.step (fun _ => rfl) ?_
        simp only [spec_Number.l0]
        exact ev_neg (by omega) (Ev.bind hd (ev_pos hc (ev_some rfl)))
      · refine Ev.step (fun _ => rfl) ?_
        simp only [impl_Number.l0]
        exact ev_neg (by omega) (ev_bind0 hm (ev_pos hc (ev_some rfl)))
    · refine ⟨(0, false), ?_, ?_⟩
      · refine Ev.step (fun _ => rfl) ?_
        simp only [spec_Number.l0]
        exact ev_neg (by omega) (Ev.bind hd (ev_neg hc (ev_some rfl)))
      · refine Ev.step (fun _ => rfl) ?_
        simp only [impl_Number.l0]
        exact ev_neg (by omega) (ev_bind0 hm (ev_neg hc (ev_some rfl)))
  | succ m ih =>
    intro i v hi hv
    have hp : 10 ^ i ≤ 10 ^ 5 := Nat.pow_le_pow_right (by omega) (by omega)
    have h5 : (10 : Nat) ^ 5 = 100000 := by decide
    have hb := bt_range s (i : Int)
    by_cases h1 : bt s (i : Int) < 48
    · refine ⟨(0, false), ?_, ?_⟩
      · refine Ev.step (fun _ => rfl) ?_
        simp only [spec_Number.l0]
        exact ev_pos (by omega) (ev_pos (by omega) (ev_pos h1 (ev_some rfl)))
      · refine Ev.step (fun _ => rfl) ?_
        simp only [impl_Number.l0]
        exact ev_pos (by omega) (ev_pos (by omega) (ev_pos h1 (ev_some rfl)))
    by_cases h2 : bt s (i : Int) > 57
    · refine ⟨(0, false), ?_, ?_⟩
      · refine Ev.step (fun _ => rfl) ?_
        simp only [spec_Number.l0]
        exact ev_pos (by omega) (ev_pos (by omega) (ev_neg h1 (ev_pos h2 (ev_some rfl))))
      · refine Ev.step (fun _ => rfl) ?_
        simp only [impl_Number.l0]
        exact ev_pos (by omega) (ev_pos (by omega) (ev_neg h1 (ev_pos h2 (ev_some rfl))))
    have hq : 10 ^ (i + 1) = 10 * 10 ^ i := by rw [Nat.pow_succ, Nat.mul_comm]
    obtain ⟨d, hd, hd9⟩ : ∃ d : Nat, bt s (i : Int) = 48 + (d : Int) ∧ d ≤ 9 := ⟨(bt s (i : Int) - 48).toNat, by omega, by omega⟩
    obtain ⟨r, e1, e2⟩ := ih (i + 1) (10 * v + d) (by omega) (by rw [hq]; omega)
    have hv2 : v ≤ 100000 := by omega
    clear hq hp h5 ih hv
    refine ⟨r, ?_, ?_⟩
    · refine Ev.step (fun _ => rfl) ?_
      simp only [spec_Number.l0]
      refine ev_pos (by omega) (ev_pos (by omega) (ev_neg h1 (ev_neg h2 ?_)))
      rw [hd, w64 (x := 10 * (v : Int)) (by omega) (by omega), w64 (x := 48 + (d : Int)) (by omega) (by omega), w64 (x := 10 * (v : Int) + (48 + (d : Int))) (by omega) (by omega), w64 (x := 10 * (v : Int) + (48 + (d : Int)) - 48) (by omega) (by omega), w64 (x := (i : Int) + 1) (by omega) (by omega), show 10 * (v : Int) + (48 + (d : Int)) - 48 = ((10 * v + d : Nat) : Int) by omega, show (i : Int) + 1 = ((i + 1 : Nat) : Int) by omega]
      exact e1
    · refine Ev.step (fun _ => rfl) ?_
      simp only [impl_Number.l0]
      refine ev_pos (by omega) (ev_pos (by omega) (ev_neg h1 (ev_neg h2 ?_)))
      rw [hd, w64 (x := 10 * (v : Int)) (by omega) (by omega), show (48 + (d : Int) - 48) % 256 = (d : Int) by omega, w64 (x := 10 * (v : Int) + (d : Int)) (by omega) (by omega), w64 (x := (i : Int) + 1) (by omega) (by omega), show 10 * (v : Int) + (d : Int) = ((10 * v + d : Nat) : Int) by omega, show (i : Int) + 1 = ((i + 1 : Nat) : Int) by omega]
      exact e2
theorem number_all (s : ByteArray) : ∃ r, Ev (fun k => spec_Number.f k s) r ∧ Ev (fun k => impl_Number.f k s) r := by
  unfold spec_Number.f impl_Number.f
  by_cases h1 : (s.size : Int) < 1
  · refine ⟨(0, false), ev_pos h1 ?_, ev_pos h1 ?_⟩
    · refine Ev.step (fun _ => rfl) ?_
      simp only [spec_Number.j0]
      exact ev_pos (by trivial) (ev_some rfl)
    · refine Ev.step (fun _ => rfl) ?_
      simp only [impl_Number.j0]
      exact ev_pos (by trivial) (ev_some rfl)
  by_cases h2 : (s.size : Int) > 6
  · refine ⟨(0, false), ev_neg h1 ?_, ev_neg h1 ?_⟩
    · refine Ev.step (fun _ => rfl) ?_
      simp only [spec_Number.j0]
      exact ev_pos (decide_eq_true h2) (ev_some rfl)
    · refine Ev.step (fun _ => rfl) ?_
      simp only [impl_Number.j0]
      exact ev_pos (decide_eq_true h2) (ev_some rfl)
  have hn : ¬ decide ((s.size : Int) > 6) = true := by rw [decide_eq_false h2]; simp
  obtain ⟨r, e1, e2⟩ := number_at s (by omega) s.size 0 0 (by omega) (by simp)
  refine ⟨r, ev_neg h1 ?_, ev_neg h1 ?_⟩
  · refine Ev.step (fun _ => rfl) ?_
    simp only [spec_Number.j0]
    exact ev_neg hn e1
  · refine Ev.step (fun _ => rfl) ?_
    simp only [impl_Number.j0]
    exact ev_neg hn e2
theorem FnExactNumber : laws_FnExactNumber.Pure := by
  intro s _
  refine (?_ : Ev (fun k => laws_FnExactNumber.f k s) true).rounds
  unfold laws_FnExactNumber.f
  refine ev_if (fun _ => ev_some rfl) (fun _ => ?_)
  obtain ⟨r, e1, e2⟩ := number_all s
  exact Ev.bind e1 (Ev.bind e2 (ev_pos rfl (ev_neg (by simp) (ev_some rfl))))

end Go.Proofs.YtkpicmjncfhnmaaDoor.Pure
