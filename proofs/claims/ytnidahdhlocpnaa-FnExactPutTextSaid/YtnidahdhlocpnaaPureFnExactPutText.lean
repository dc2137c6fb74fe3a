/- PutText of the program is PutText of the reference, for all arguments, and what it hands back is memory of its own. -/
import Derived.Test.YtnidahdhlocpnaaPFnExactPutTextx2
import Derived.Test.YtnidahdhlocpnaaAid
namespace Go.Proofs.Ytnidahdhlocpnaa.Pure
open Go.RowKit Go.Proofs.Ytnidahdhlocpnaa.PFnExactPutText Go.Proofs.YtnidahdhlocpnaaW.PrintWords Go.Proofs.YtnidahdhlocpnaaW.PrintLast Go.Proofs.Ytnidahdhlocpnaa.Aid

theorem eqByteS_at (x0 : List Int) (hn : x0.length ≤ 140737488351232) (d : Nat) : ∀ (i : Nat), i + d = x0.length →
    Ev (fun k => laws_eqByteS.l0 k x0 x0 (i : Int)) true := by
  induction d with
  | zero =>
    intro i hi
    refine Ev.step (fun _ => rfl) ?_
    simp only [laws_eqByteS.l0]
    refine ev_neg (by omega) (ev_some rfl)
  | succ d ih =>
    intro i hi
    refine Ev.step (fun _ => rfl) ?_
    simp only [laws_eqByteS.l0]
    refine ev_pos (by omega) (ev_pos (by omega) (ev_pos (by omega) (ev_pos (by trivial) ?_)))
    rw [w64 (x := (i : Int) + 1) (by omega) (by omega), show (i : Int) + 1 = ((i + 1 : Nat) : Int) by omega]
    exact ih (i + 1) (by omega)
theorem eqByteS_ev (x0 : List Int) (hn : x0.length ≤ 140737488351232) : Ev (fun k => laws_eqByteS.f k x0 x0) true := by
  unfold laws_eqByteS.f
  exact ev_pos rfl (eqByteS_at x0 hn x0.length 0 (by omega))
theorem markByteS_at (a : Nat) (n : Nat) (hn : a + n ≤ 281474976702464) (d : Nat) : ∀ (i : Nat) (x3 : List Int), i + d = n → x3.length = n → x3.take i = (marks8 a n).take i →
    Ev (fun k => laws_markByteS.l0 k x3 ((a + i : Nat) : Int) (i : Int)) (((a + n : Nat) : Int), marks8 a n) := by
  induction d with
  | zero =>
    intro i x3 hi hl ht
    refine Ev.step (fun _ => rfl) ?_
    simp only [laws_markByteS.l0]
    refine ev_neg (by omega) (ev_some ?_)
    rw [take_all (ys := marks8 a n) (by rw [hl, marks8_length]) (by rw [marks8_length]; omega) ht, show i = n by omega]
  | succ d ih =>
    intro i x3 hi hl ht
    refine Ev.step (fun _ => rfl) ?_
    simp only [laws_markByteS.l0]
    refine ev_pos (by omega) (ev_pos (by omega) ?_)
    rw [w64 (x := (i : Int) + 1) (by omega) (by omega), w64 (x := ((a + i : Nat) : Int) + 1) (by omega) (by omega), Int.toNat_natCast, show (i : Int) + 1 = ((i + 1 : Nat) : Int) by omega, show ((a + i : Nat) : Int) + 1 = ((a + (i + 1) : Nat) : Int) by omega]
    have hm : ((a + i : Nat) : Int) % 256 = (marks8 a n)[i]'(by rw [marks8_length]; omega) := by
      rw [marks8_get]
    rw [hm]
    exact ih (i + 1) _ (by omega) (by simp [hl]) (take_set (ys := marks8 a n) (by rw [hl, marks8_length]) (by rw [marks8_length]; omega) ht)
theorem markByteS_ev (x0 : List Int) (a : Nat) (hn : a + x0.length ≤ 281474976702464) : Ev (fun k => laws_markByteS.f k x0 (a : Int)) (((a + x0.length : Nat) : Int), marks8 a x0.length) := by
  unfold laws_markByteS.f
  exact markByteS_at a x0.length hn x0.length 0 x0 (by omega) rfl (by simp)
theorem heldByteS_at (a : Nat) (n : Nat) (hn : a + n ≤ 281474976702464) (d : Nat) : ∀ (i : Nat), i + d = n →
    Ev (fun k => laws_heldByteS.l0 k (marks8 a n) ((a + i : Nat) : Int) (i : Int)) ((a + n : Nat) : Int) := by
  induction d with
  | zero =>
    intro i hi
    refine Ev.step (fun _ => rfl) ?_
    simp only [laws_heldByteS.l0, marks8_length]
    refine ev_neg (by omega) (ev_some ?_)
    rw [show i = n by omega]
  | succ d ih =>
    intro i hi
    refine Ev.step (fun _ => rfl) ?_
    simp only [laws_heldByteS.l0, marks8_length]
    refine ev_pos (by omega) (ev_pos (by omega) (ev_pos ?_ ?_))
    · rw [rd_get (show i < (marks8 a n).length by rw [marks8_length]; omega), marks8_get]
    rw [w64 (x := (i : Int) + 1) (by omega) (by omega), w64 (x := ((a + i : Nat) : Int) + 1) (by omega) (by omega), show (i : Int) + 1 = ((i + 1 : Nat) : Int) by omega, show ((a + i : Nat) : Int) + 1 = ((a + (i + 1) : Nat) : Int) by omega]
    exact ih (i + 1) (by omega)
theorem heldByteS_ev (a n : Nat) (hn : a + n ≤ 281474976702464) : Ev (fun k => laws_heldByteS.f k (marks8 a n) (a : Int)) ((a + n : Nat) : Int) := by
  unfold laws_heldByteS.f
  exact heldByteS_at a n hn n 0 (by omega)
/-- Seven bits a byte, the low ones first; 128 more in each but the last. -/
def pnum : Nat → Nat → List Int
  | 0, n => [(n : Int)]
  | d + 1, n => if 128 ≤ n then (((n % 128 + 128 : Nat)) : Int) :: pnum d (n / 128) else [(n : Int)]
def putNum (a : Int) : List Int := if 0 ≤ a ∧ a ≤ 2147483647 then pnum 4 a.toNat else []
theorem pnum_length (d n : Nat) : (pnum d n).length ≤ d + 1 := by
  induction d generalizing n with
  | zero => simp [pnum]
  | succ d ih =>
    unfold pnum
    split
    · have := ih (n / 128)
      simp
      omega
    · simp
theorem putNum_length (a : Int) : (putNum a).length ≤ 5 := by
  unfold putNum
  split
  · exact pnum_length 4 _
  · simp
theorem impl_putNum_at (d : Nat) : ∀ (n : Nat) (x3 : List Int), n < 128 ^ (d + 1) → n ≤ 2147483647 → x3.length + d ≤ 100 →
    Ev (fun k => impl_PutNum.l0 k (n : Int) x3) (x3 ++ pnum d n) := by
  induction d with
  | zero =>
    intro n x3 hn hm hl
    refine Ev.step (fun _ => rfl) ?_
    simp only [impl_PutNum.l0]
    refine ev_neg (by omega) (ev_pos (by omega) (ev_some ?_))
    rw [Int.emod_eq_of_lt (by omega) (by omega)]
    rfl
  | succ d ih =>
    intro n x3 hn hm hl
    refine Ev.step (fun _ => rfl) ?_
    simp only [impl_PutNum.l0]
    by_cases h : 128 ≤ n
    · refine ev_pos (by omega) (ev_pos (by omega) ?_)
      have e1 : wrap64 (Int.tdiv (n : Int) 128) = ((n / 128 : Nat) : Int) := by
        rw [Int.tdiv_eq_ediv_of_nonneg (by omega), w64 (by omega) (by omega)]
        omega
      have e2 : (wrap64 ((Int.tmod (n : Int) 128) + 128)) % 256 = (((n % 128 + 128 : Nat)) : Int) := by
        rw [Int.tmod_eq_emod_of_nonneg (by omega), w64 (by omega) (by omega)]
        omega
      rw [e1, e2]
      have := ih (n / 128) (x3 ++ [(((n % 128 + 128 : Nat)) : Int)]) (by rw [Nat.pow_succ] at hn; omega) (by omega) (by simp; omega)
      rw [List.append_assoc] at this
      unfold pnum
      rw [if_pos h]
      exact this
    · refine ev_neg (by omega) (ev_pos (by omega) (ev_some ?_))
      rw [Int.emod_eq_of_lt (by omega) (by omega)]
      unfold pnum
      rw [if_neg h]
theorem impl_putNum_ev (a : Int) : Ev (fun k => impl_PutNum.f k a) (putNum a) := by
  unfold impl_PutNum.f impl_within.f putNum
  by_cases h : 0 ≤ a ∧ a ≤ 2147483647
  · rw [if_pos h, if_pos h.1]
    obtain ⟨n, rfl⟩ := Int.eq_ofNat_of_zero_le h.1
    refine ev_bind0 rfl (ev_pos (by simp; omega) ?_)
    exact impl_putNum_at 4 n [] (by omega) (by omega) (by simp)
  · rw [if_neg h]
    by_cases h0 : 0 ≤ a
    · rw [if_pos h0]
      exact ev_bind0 rfl (ev_neg (by simp; omega) (ev_some rfl))
    · rw [if_neg h0]
      exact ev_bind0 rfl (ev_neg (by simp) (ev_some rfl))
theorem spec_putNum_at (d : Nat) : ∀ (n : Nat) (x3 : List Int), n < 128 ^ (d + 1) → n ≤ 2147483647 → x3.length + d ≤ 100 →
    Ev (fun k => spec_PutNum.l0 k (n : Int) x3) (x3 ++ pnum d n) := by
  induction d with
  | zero =>
    intro n x3 hn hm hl
    refine Ev.step (fun _ => rfl) ?_
    simp only [spec_PutNum.l0]
    refine ev_neg (by omega) (ev_pos (by omega) (ev_some ?_))
    rw [Int.emod_eq_of_lt (by omega) (by omega)]
    rfl
  | succ d ih =>
    intro n x3 hn hm hl
    refine Ev.step (fun _ => rfl) ?_
    simp only [spec_PutNum.l0]
    by_cases h : 128 ≤ n
    · refine ev_pos (by omega) (ev_pos (by omega) ?_)
      have e1 : wrap64 (Int.tdiv (n : Int) 128) = ((n / 128 : Nat) : Int) := by
        rw [Int.tdiv_eq_ediv_of_nonneg (by omega), w64 (by omega) (by omega)]
        omega
      have e2 : (wrap64 ((Int.tmod (n : Int) 128) + 128)) % 256 = (((n % 128 + 128 : Nat)) : Int) := by
        rw [Int.tmod_eq_emod_of_nonneg (by omega), w64 (by omega) (by omega)]
        omega
      rw [e1, e2]
      have := ih (n / 128) (x3 ++ [(((n % 128 + 128 : Nat)) : Int)]) (by rw [Nat.pow_succ] at hn; omega) (by omega) (by simp; omega)
      rw [List.append_assoc] at this
      unfold pnum
      rw [if_pos h]
      exact this
    · refine ev_neg (by omega) (ev_pos (by omega) (ev_some ?_))
      rw [Int.emod_eq_of_lt (by omega) (by omega)]
      unfold pnum
      rw [if_neg h]
theorem spec_putNum_ev (a : Int) : Ev (fun k => spec_PutNum.f k a) (putNum a) := by
  unfold spec_PutNum.f spec_l1In.f putNum
  by_cases h : 0 ≤ a ∧ a ≤ 2147483647
  · rw [if_pos h, if_pos h.1]
    obtain ⟨n, rfl⟩ := Int.eq_ofNat_of_zero_le h.1
    refine ev_bind0 rfl (ev_bind0 rfl (ev_pos (by simp; omega) ?_))
    exact spec_putNum_at 4 n [] (by omega) (by omega) (by simp)
  · rw [if_neg h]
    by_cases h0 : 0 ≤ a
    · rw [if_pos h0]
      exact ev_bind0 rfl (ev_bind0 rfl (ev_neg (by simp; omega) (ev_some rfl)))
    · rw [if_neg h0]
      exact ev_bind0 rfl (ev_bind0 rfl (ev_neg (by simp) (ev_some rfl)))
theorem FnExactPutText : laws_FnExactPutText.Pure := by
  intro s h
  refine (?_ : Ev (fun k => laws_FnExactPutText.f k s) true).rounds
  unfold laws_FnExactPutText.f
  by_cases hb : (s.size : Int) > 1048576
  · exact ev_pos hb (ev_some rfl)
  refine ev_neg hb ?_
  have hl := putNum_length (s.size : Int)
  have hz : (putNum (s.size : Int) ++ bytesOf s).length ≤ 1048581 := by rw [List.length_append, bytesOf_length]; omega
  have S : Ev (fun k => spec_PutText.f k s) (putNum (s.size : Int) ++ bytesOf s) := by
    unfold spec_PutText.f
    exact Ev.bind (spec_putNum_ev _) (ev_pos (by omega) (ev_some rfl))
  have I : Ev (fun k => impl_PutText.f k s) (putNum (s.size : Int) ++ bytesOf s) := by
    unfold impl_PutText.f
    exact Ev.bind (impl_putNum_ev _) (ev_pos (by omega) (ev_some rfl))
  generalize putNum (s.size : Int) ++ bytesOf s = v at hz S I
  have E := eqByteS_ev v (by omega)
  refine Ev.bind S (Ev.bind I (Ev.bind E (ev_pos rfl ?_)))
  refine Ev.bind (markByteS_ev v 1 (by omega)) (Ev.bind (heldByteS_ev 1 v.length (by omega)) (ev_neg (by omega) (ev_pos rfl ?_)))
  refine Ev.bind I (Ev.bind E (ev_pos rfl ?_))
  exact Ev.bind (heldByteS_ev 1 v.length (by omega)) (ev_neg (by omega) (ev_pos rfl (ev_some rfl)))

end Go.Proofs.Ytnidahdhlocpnaa.Pure
