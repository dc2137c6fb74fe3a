/- GetText of the program is GetText of the reference, for all arguments, and leaves its bytes as they were. -/
import Derived.Test.YtpmgajcjanihhaaPFnExactGetTextx2
import Derived.Test.YtpmgajcjanihhaaAid
namespace Go.Proofs.Ytpmgajcjanihhaa.Pure
open Go.RowKit Go.Proofs.Ytpmgajcjanihhaa.PFnExactGetText Go.Proofs.YtpmgajcjanihhaaW.PrintWords Go.Proofs.YtpmgajcjanihhaaW.PrintLast Go.Proofs.YtpmgajcjanihhaaW.PrintMore Go.Proofs.Ytpmgajcjanihhaa.Aid

theorem toByteS_at (x0 : List Int) (hn : x0.length ≤ 140737488351232) (d : Nat) : ∀ (i : Nat) (x3 : List Int), i + d = x0.length → x3.length = x0.length → x3.take i = x0.take i →
    Ev (fun k => laws_toByteS.l0 k x0 x3 (i : Int)) x0 := by
  induction d with
  | zero =>
    intro i x3 hi hl ht
    refine Ev.step (fun _ => rfl) ?_
    simp only [laws_toByteS.l0]
    refine ev_neg (by omega) (ev_some (take_all hl (by omega) ht))
  | succ d ih =>
    intro i x3 hi hl ht
    refine Ev.step (fun _ => rfl) ?_
    simp only [laws_toByteS.l0]
    refine ev_pos (by omega) (ev_pos (by omega) (ev_pos (by omega) ?_))
    rw [w64 (x := (i : Int) + 1) (by omega) (by omega), rd_get (show i < x0.length by omega), Int.toNat_natCast, show (i : Int) + 1 = ((i + 1 : Nat) : Int) by omega]
    exact ih (i + 1) _ (by omega) (by simp [hl]) (take_set hl (by omega) ht)
theorem toByteS_ev (x0 : List Int) (hn : x0.length ≤ 140737488351232) : Ev (fun k => laws_toByteS.f k x0) x0 := by
  unfold laws_toByteS.f
  refine ev_pos (by omega) (ev_pos (by omega) ?_)
  exact toByteS_at x0 hn x0.length 0 _ (by omega) (by simp) (by simp)
theorem eqByteS_at (x0 : List Int) (hn : x0.length ≤ 140737488351232) (d : Nat) : ∀ (i : Nat), i + d = x0.length →
    Ev (fun k => laws_eqByteS.l0 k x0 x0 (i : Int)) true := by
  induction d with
  | zero =>
    intro i hi
    refine Ev.step (fun _ => rfl) ?_
    simp only [laws_eqByteS.l0]
    refine ev_neg (by omega) (ev_some rfl)
  | succ d ih =>
    intro i hi
    refine Ev.step (fun _ => rfl) ?_
    simp only [laws_eqByteS.l0]
    refine ev_pos (by omega) (ev_pos (by omega) (ev_pos (by omega) (ev_pos (by trivial) ?_)))
    rw [w64 (x := (i : Int) + 1) (by omega) (by omega), show (i : Int) + 1 = ((i + 1 : Nat) : Int) by omega]
    exact ih (i + 1) (by omega)
theorem eqByteS_ev (x0 : List Int) (hn : x0.length ≤ 140737488351232) : Ev (fun k => laws_eqByteS.f k x0 x0) true := by
  unfold laws_eqByteS.f
  exact ev_pos rfl (eqByteS_at x0 hn x0.length 0 (by omega))
/-- Seven bits a byte, the low ones first; 128 more in each but the last. -/
def pnum : Nat → Nat → List Int
  | 0, n => [(n : Int)]
  | d + 1, n => if 128 ≤ n then (((n % 128 + 128 : Nat)) : Int) :: pnum d (n / 128) else [(n : Int)]
def putNum (a : Int) : List Int := if 0 ≤ a ∧ a ≤ 2147483647 then pnum 4 a.toNat else []
theorem pnum_length (d n : Nat) : (pnum d n).length ≤ d + 1 := by
  induction d generalizing n with
  | zero => simp [pnum]
  | succ d ih =>
    unfold pnum
    split
    · have := ih (n / 128)
      simp
      omega
    · simp
theorem putNum_length (a : Int) : (putNum a).length ≤ 5 := by
  unfold putNum
  split
  · exact pnum_length 4 _
  · simp
theorem impl_putNum_at (d : Nat) : ∀ (n : Nat) (x3 : List Int), n < 128 ^ (d + 1) → n ≤ 2147483647 → x3.length + d ≤ 100 →
    Ev (fun k => impl_PutNum.l0 k (n : Int) x3) (x3 ++ pnum d n) := by
  induction d with
  | zero =>
    intro n x3 hn hm hl
    refine Ev.step (fun _ => rfl) ?_
    simp only [impl_PutNum.l0]
    refine ev_neg (by omega) (ev_pos (by omega) (ev_some ?_))
    rw [Int.emod_eq_of_lt (by omega) (by omega)]
    rfl
  | succ d ih =>
    intro n x3 hn hm hl
    refine Ev.step (fun _ => rfl) ?_
    simp only [impl_PutNum.l0]
    by_cases h : 128 ≤ n
    · refine ev_pos (by omega) (ev_pos (by omega) ?_)
      have e1 : wrap64 (Int.tdiv (n : Int) 128) = ((n / 128 : Nat) : Int) := by
        rw [Int.tdiv_eq_ediv_of_nonneg (by omega), w64 (by omega) (by omega)]
        omega
      have e2 : (wrap64 ((Int.tmod (n : Int) 128) + 128)) % 256 = (((n % 128 + 128 : Nat)) : Int) := by
        rw [Int.tmod_eq_emod_of_nonneg (by omega), w64 (by omega) (by omega)]
        omega
      rw [e1, e2]
      have := ih (n / 128) (x3 ++ [(((n % 128 + 128 : Nat)) : Int)]) (by rw [Nat.pow_succ] at hn; omega) (by omega) (by simp; omega)
      rw [List.append_assoc] at this
      unfold pnum
      rw [if_pos h]
      exact this
    · refine ev_neg (by omega) (ev_pos (by omega) (ev_some ?_))
      rw [Int.emod_eq_of_lt (by omega) (by omega)]
      unfold pnum
      rw [if_neg h]
theorem impl_putNum_ev (a : Int) : Ev (fun k => impl_PutNum.f k a) (putNum a) := by
  unfold impl_PutNum.f impl_within.f putNum
  by_cases h : 0 ≤ a ∧ a ≤ 2147483647
  · rw [if_pos h, if_pos h.1]
    obtain ⟨n, rfl⟩ := Int.eq_ofNat_of_zero_le h.1
    refine ev_bind0 rfl (ev_pos (by simp; omega) ?_)
    exact impl_putNum_at 4 n [] (by omega) (by omega) (by simp)
  · rw [if_neg h]
    by_cases h0 : 0 ≤ a
    · rw [if_pos h0]
      exact ev_bind0 rfl (ev_neg (by simp; omega) (ev_some rfl))
    · rw [if_neg h0]
      exact ev_bind0 rfl (ev_neg (by simp) (ev_some rfl))
theorem pnum_len (d : Nat) : ∀ i n, i ≤ d → 128 ^ i ≤ n → n < 128 ^ (i + 1) → (pnum d n).length = i + 1 := by
  induction d with
  | zero =>
    intro i n hi _ _
    obtain rfl : i = 0 := by omega
    rfl
  | succ d ih =>
    intro i n hi h0 h1
    unfold pnum
    cases i with
    | zero => rw [if_neg (by omega)]; rfl
    | succ i =>
      have hp : 0 < 128 ^ i := Nat.pow_pos (by omega)
      rw [Nat.pow_succ] at h0 h1
      rw [if_pos (by omega), List.length_cons, ih i (n / 128) (by omega) (by omega) (by omega)]
theorem pnum_short (d : Nat) : ∀ i n, n < 128 ^ (i + 1) → (pnum d n).length ≤ i + 1 := by
  induction d with
  | zero =>
    intro i n _
    simp [pnum]
  | succ d ih =>
    intro i n h1
    unfold pnum
    split
    · cases i with
      | zero => omega
      | succ i =>
        rw [Nat.pow_succ] at h1
        have := ih i (n / 128) (by omega)
        rw [List.length_cons]
        omega
    · simp
/-- The number that is read, from byte i of it on. -/
def gnum (xs : List Int) (a : Nat) : Nat → Nat → Nat → Int × Int × Bool
  | 0, _, _ => (0, 0, false)
  | d + 1, i, n =>
    if a + i < xs.length then
      if rd xs ((a + i : Nat) : Int) < 128 then
        if (0 < i ∧ rd xs ((a + i : Nat) : Int) = 0) ∨ n + (rd xs ((a + i : Nat) : Int)).toNat % 128 * 2 ^ (7 * i) > 2147483647 then (0, 0, false)
        else (((n + (rd xs ((a + i : Nat) : Int)).toNat % 128 * 2 ^ (7 * i) : Nat) : Int), ((a + i + 1 : Nat) : Int), true)
      else gnum xs a d (i + 1) (n + (rd xs ((a + i : Nat) : Int)).toNat % 128 * 2 ^ (7 * i))
    else (0, 0, false)
def getNum (xs : List Int) (a : Int) : Int × Int × Bool := if 0 ≤ a ∧ a < xs.length then gnum xs a.toNat 5 0 0 else (0, 0, false)
theorem put_fits (c i n : Nat) (hi : i < 5) (hn : n < 2 ^ (7 * i)) (hc : c < 128) :
    ((((putNum ((n + c * 2 ^ (7 * i) : Nat) : Int)).length : Int)) = ((i + 1 : Nat) : Int)) ↔ ¬ ((0 < i ∧ c = 0) ∨ n + c * 2 ^ (7 * i) > 2147483647) := by
  have e : 2 ^ (7 * i) = 128 ^ i := by rw [Nat.pow_mul]
  rw [e] at hn ⊢
  have hp : 0 < 128 ^ i := Nat.pow_pos (by omega)
  unfold putNum
  by_cases hb : n + c * 128 ^ i > 2147483647
  · rw [if_neg (by omega)]
    simp [hb]
    omega
  · rw [if_pos (by omega), Int.toNat_natCast]
    have h5 : n + c * 128 ^ i < 128 ^ (i + 1) := by
      rw [Nat.pow_succ]
      have : c * 128 ^ i ≤ 127 * 128 ^ i := Nat.mul_le_mul_right _ (by omega)
      omega
    by_cases h0 : 0 < i ∧ c = 0
    · obtain ⟨h0, rfl⟩ := h0
      obtain ⟨j, rfl⟩ : ∃ j, i = j + 1 := ⟨i - 1, by omega⟩
      have := pnum_short 4 j (n + 0 * 128 ^ (j + 1)) (by simpa using hn)
      constructor
      · intro h
        omega
      · intro h
        exact absurd (Or.inl ⟨h0, rfl⟩) h
    · by_cases hi0 : i = 0
      · subst hi0
        have := pnum_len 4 0 (n + c * 128 ^ 0)
        simp at hn
        subst hn
        unfold pnum
        rw [if_neg (by omega)]
        simp
        omega
      · have : 1 ≤ c := by omega
        have h1 : 1 * 128 ^ i ≤ c * 128 ^ i := Nat.mul_le_mul_right _ this
        rw [pnum_len 4 i _ (by omega) (by omega) h5]
        constructor
        · intro _ h
          omega
        · intro _
          rfl
theorem impl_getNum_at (xs : List Int) (hx : ∀ x ∈ xs, 0 ≤ x ∧ x ≤ 255) (hlen : xs.length ≤ 140737488351232) (a : Nat) (ha : a < xs.length) (d : Nat) : ∀ (i n : Nat), i + d = 5 → n < 2 ^ (7 * i) →
    Ev (fun k => impl_GetNum.l0 k xs (a : Int) (n : Int) (i : Int)) (gnum xs a d i n) := by
  induction d with
  | zero =>
    intro i n hi hn
    refine Ev.step (fun _ => rfl) ?_
    simp only [impl_GetNum.l0]
    refine ev_neg (by omega) ?_
    refine Ev.step (fun _ => rfl) ?_
    simp only [impl_GetNum.j1]
    exact ev_neg (by simp) (ev_some rfl)
  | succ d ih =>
    intro i n hi hn
    refine Ev.step (fun _ => rfl) ?_
    simp only [impl_GetNum.l0]
    refine ev_pos (by omega) ?_
    refine Ev.step (fun _ => rfl) ?_
    simp only [impl_GetNum.j1]
    have e0 : wrap64 ((a : Int) + (i : Int)) = ((a + i : Nat) : Int) := by rw [w64 (by omega) (by omega)]; omega
    rw [e0]
    unfold gnum
    by_cases hlt : a + i < xs.length
    · rw [if_pos hlt]
      have hr := rd_byte hx ((a + i : Nat) : Int)
      generalize rd xs ((a + i : Nat) : Int) = c at hr ⊢
      obtain ⟨c, rfl⟩ := Int.eq_ofNat_of_zero_le hr.1
      have hf := put_fits (c % 128) i n (by omega) hn (by omega)
      have hsv := seven n c i (by omega) hn
      have hw : (wrap64 (7 * (i : Int)) = ((7 * i : Nat) : Int)) ∧ (Int.tmod (c : Int) 128 = ((c % 128 : Nat) : Int)) ∧ (wrap64 ((i : Int) + 1) = ((i + 1 : Nat) : Int)) ∧ (wrap64 (((a + i : Nat) : Int) + 1) = ((a + i + 1 : Nat) : Int)) ∧ (wrap64 (c : Int) = (c : Int)) :=
        ⟨by rw [w64 (by omega) (by omega)]; omega, by rw [Int.tmod_eq_emod_of_nonneg (by omega)]; omega, by rw [w64 (by omega) (by omega)]; omega, by rw [w64 (by omega) (by omega)]; omega, w64 (by omega) (by omega)⟩
      obtain ⟨M, hM, e3, e4, e4', hlt2⟩ := hsv
      obtain ⟨e1, e2, e5, e6, e7⟩ := hw
      simp only [← hM, e1, e2, e3, e4, e5, e6, e7, Int.toNat_natCast]
      rw [← hM] at hf
      clear hM hn e1 e2 e3 e4 e4' e5 e6 e7
      refine ev_pos (by simp; omega) (ev_pos (by omega) (ev_pos (by omega) (ev_pos (by omega) ?_)))
      by_cases h8 : (c : Int) < 128
      · rw [if_pos h8]
        refine ev_pos h8 (Ev.bind (impl_putNum_ev _) ?_)
        have hc0 : (c : Int) = 0 ↔ c % 128 = 0 := by omega
        simp only [hc0]
        by_cases hz : (0 < i ∧ c % 128 = 0) ∨ n + M > 2147483647
        · rw [if_pos hz]
          exact ev_neg (by rw [hf]; simp only [hz, not_true_eq_false, not_false_eq_true]) (ev_some rfl)
        · rw [if_neg hz]
          exact ev_pos (hf.2 hz) (ev_some rfl)
      · rw [if_neg h8]
        refine ev_neg h8 ?_
        exact ih (i + 1) _ (by omega) (hlt2 _ rfl)
    · rw [if_neg hlt]
      exact ev_neg (by simp; omega) (ev_some rfl)
theorem impl_getNum_ev (xs : List Int) (hx : ∀ x ∈ xs, 0 ≤ x ∧ x ≤ 255) (hlen : xs.length ≤ 140737488351232) (a : Int) : Ev (fun k => impl_GetNum.f k xs a) (getNum xs a) := by
  unfold impl_GetNum.f impl_within.f getNum
  rw [w64 (by omega) (by omega)]
  by_cases h : 0 ≤ a ∧ a < xs.length
  · rw [if_pos h, if_pos h.1]
    obtain ⟨n, rfl⟩ := Int.eq_ofNat_of_zero_le h.1
    refine ev_bind0 rfl (ev_pos (by simp; omega) ?_)
    exact impl_getNum_at xs hx hlen n (by omega) 5 0 0 (by omega) (by omega)
  · rw [if_neg h]
    by_cases h0 : 0 ≤ a
    · rw [if_pos h0]
      exact ev_bind0 rfl (ev_neg (by simp; omega) (ev_some rfl))
    · rw [if_neg h0]
      exact ev_bind0 rfl (ev_neg (by simp) (ev_some rfl))
theorem spec_getNum_at (xs : List Int) (hx : ∀ x ∈ xs, 0 ≤ x ∧ x ≤ 255) (hlen : xs.length ≤ 140737488351232) (a : Nat) (ha : a < xs.length) (d : Nat) : ∀ (i n : Nat), i + d = 5 → n < 2 ^ (7 * i) →
    Ev (fun k => spec_GetNum.l0 k xs (a : Int) (n : Int) (i : Int)) (gnum xs a d i n) := by
  induction d with
  | zero =>
    intro i n hi hn
    refine Ev.step (fun _ => rfl) ?_
    simp only [spec_GetNum.l0]
    exact ev_neg (by omega) (ev_some rfl)
  | succ d ih =>
    intro i n hi hn
    refine Ev.step (fun _ => rfl) ?_
    simp only [spec_GetNum.l0]
    refine ev_pos (by omega) (ev_neg (by omega) ?_)
    refine Ev.step (fun _ => rfl) ?_
    simp only [spec_GetNum.j1]
    have e0 : wrap64 ((a : Int) + (i : Int)) = ((a + i : Nat) : Int) := by rw [w64 (by omega) (by omega)]; omega
    have e9 : wrap64 ((xs.length : Int) - (i : Int)) = (xs.length : Int) - (i : Int) := w64 (by omega) (by omega)
    rw [e0, e9]
    unfold gnum
    by_cases hlt : a + i < xs.length
    · rw [if_pos hlt]
      have hr := rd_byte hx ((a + i : Nat) : Int)
      generalize rd xs ((a + i : Nat) : Int) = c at hr ⊢
      obtain ⟨c, rfl⟩ := Int.eq_ofNat_of_zero_le hr.1
      have hsv := seven n c i (by omega) hn
      have hw : (wrap64 (7 * (i : Int)) = ((7 * i : Nat) : Int)) ∧ (Int.tmod (c : Int) 128 = ((c % 128 : Nat) : Int)) ∧ (wrap64 ((i : Int) + 1) = ((i + 1 : Nat) : Int)) ∧ (wrap64 (((a + i : Nat) : Int) + 1) = ((a + i + 1 : Nat) : Int)) ∧ (wrap64 (c : Int) = (c : Int)) :=
        ⟨by rw [w64 (by omega) (by omega)]; omega, by rw [Int.tmod_eq_emod_of_nonneg (by omega)]; omega, by rw [w64 (by omega) (by omega)]; omega, by rw [w64 (by omega) (by omega)]; omega, w64 (by omega) (by omega)⟩
      obtain ⟨M, hM, e3, e4, e4', hlt2⟩ := hsv
      obtain ⟨e1, e2, e5, e6, e7⟩ := hw
      simp only [← hM, e1, e2, e3, e4', e5, e6, e7, Int.toNat_natCast]
      clear hM hn e1 e2 e3 e4 e4' e5 e6 e7
      refine ev_neg (by simp; omega) (ev_pos (by omega) (ev_pos (by omega) (ev_pos (by omega) ?_)))
      by_cases h8 : (c : Int) < 128
      · rw [if_pos h8]
        refine ev_pos h8 ?_
        refine ev_if (fun hi0 => ?_) (fun hi0 => ?_)
        · refine ev_if (fun hc0 => ?_) (fun hc0 => ?_)
          · rw [if_pos (Or.inl ⟨by omega, hc0⟩)]
            exact ev_some rfl
          · refine ev_if (fun hb => ?_) (fun hb => ?_)
            · rw [if_pos (Or.inr (by omega))]
              exact ev_some rfl
            · rw [if_neg (by omega)]
              exact ev_some rfl
        · refine ev_if (fun hb => ?_) (fun hb => ?_)
          · rw [if_pos (Or.inr (by omega))]
            exact ev_some rfl
          · rw [if_neg (by omega)]
            exact ev_some rfl
      · rw [if_neg h8]
        refine ev_neg h8 ?_
        exact ih (i + 1) _ (by omega) (hlt2 _ rfl)
    · rw [if_neg hlt]
      exact ev_pos (by simp; omega) (ev_some rfl)
theorem spec_getNum_ev (xs : List Int) (hx : ∀ x ∈ xs, 0 ≤ x ∧ x ≤ 255) (hlen : xs.length ≤ 140737488351232) (a : Int) : Ev (fun k => spec_GetNum.f k xs a) (getNum xs a) := by
  unfold spec_GetNum.f getNum
  by_cases h : 0 ≤ a ∧ a < xs.length
  · rw [if_pos h]
    obtain ⟨n, rfl⟩ := Int.eq_ofNat_of_zero_le h.1
    exact spec_getNum_at xs hx hlen n (by omega) 5 0 0 (by omega) (by omega)
  · rw [if_neg h]
    refine Ev.step (fun _ => rfl) ?_
    simp only [spec_GetNum.l0]
    refine ev_pos (by omega) ?_
    have e9 : wrap64 ((xs.length : Int) - 0) = (xs.length : Int) := by rw [w64 (by omega) (by omega)]; omega
    refine ev_if (fun h0 => ?_) (fun h0 => ?_)
    · refine Ev.step (fun _ => rfl) ?_
      simp only [spec_GetNum.j1]
      exact ev_pos (by trivial) (ev_some rfl)
    · refine Ev.step (fun _ => rfl) ?_
      simp only [spec_GetNum.j1]
      exact ev_pos (by rw [e9]; simp; omega) (ev_some rfl)
theorem gnum_ok (xs : List Int) (a : Nat) (d : Nat) : ∀ i n : Nat, (gnum xs a d i n).2.2 = true → 0 ≤ (gnum xs a d i n).1 ∧ (gnum xs a d i n).1 ≤ 2147483647 ∧ 0 ≤ (gnum xs a d i n).2.1 ∧ (gnum xs a d i n).2.1 ≤ xs.length := by
  induction d with
  | zero =>
    intro i n h
    simp [gnum] at h
  | succ d ih =>
    intro i n h
    unfold gnum at h ⊢
    by_cases h1 : a + i < xs.length
    · rw [if_pos h1] at h ⊢
      by_cases h2 : rd xs ((a + i : Nat) : Int) < 128
      · rw [if_pos h2] at h ⊢
        generalize n + (rd xs ((a + i : Nat) : Int)).toNat % 128 * 2 ^ (7 * i) = m at h ⊢
        by_cases h3 : (0 < i ∧ rd xs ((a + i : Nat) : Int) = 0) ∨ m > 2147483647
        · rw [if_pos h3] at h
          simp at h
        · rw [if_neg h3]
          simp only
          omega
      · rw [if_neg h2] at h ⊢
        exact ih _ _ h
    · rw [if_neg h1] at h
      simp at h
theorem getNum_ok (xs : List Int) (a : Int) (h : (getNum xs a).2.2 = true) : 0 ≤ (getNum xs a).1 ∧ (getNum xs a).1 ≤ 2147483647 ∧ 0 ≤ (getNum xs a).2.1 ∧ (getNum xs a).2.1 ≤ xs.length := by
  unfold getNum at h ⊢
  by_cases h1 : 0 ≤ a ∧ a < xs.length
  · rw [if_pos h1] at h ⊢
    exact gnum_ok _ _ _ _ _ h
  · rw [if_neg h1] at h
    simp at h
def getText (xs : List Int) (a : Int) : ByteArray × Int × Bool :=
  if (getNum xs a).2.2 = true then
    if (getNum xs a).1 > xs.length - (getNum xs a).2.1 then ((⟨#[]⟩ : ByteArray), 0, false)
    else (strOfNums ((xs.take ((getNum xs a).2.1 + (getNum xs a).1).toNat).drop ((getNum xs a).2.1).toNat), (getNum xs a).2.1 + (getNum xs a).1, true)
  else ((⟨#[]⟩ : ByteArray), 0, false)
theorem impl_getText_ev (xs : List Int) (hx : ∀ x ∈ xs, 0 ≤ x ∧ x ≤ 255) (hlen : xs.length ≤ 140737488351232) (a : Int) : Ev (fun k => impl_GetText.f k xs a) (getText xs a) := by
  unfold impl_GetText.f getText
  refine Ev.bind (impl_getNum_ev xs hx hlen a) ?_
  by_cases h : (getNum xs a).2.2 = true
  · obtain ⟨h0, h1, h2, h3⟩ := getNum_ok xs a h
    generalize getNum xs a = g at h h0 h1 h2 h3 ⊢
    obtain ⟨n, q, ok⟩ := g
    simp only at h h0 h1 h2 h3 ⊢
    have hw : wrap64 ((xs.length : Int) - q) = (xs.length : Int) - q ∧ wrap64 (q + n) = q + n := ⟨w64 (by omega) (by omega), w64 (by omega) (by omega)⟩
    rw [hw.1, hw.2]
    clear hw
    refine ev_pos h ?_
    by_cases hb : n > xs.length - q
    · exact ev_pos hb (ev_some (by rw [if_pos h, if_pos hb]))
    · exact ev_neg hb (ev_pos (by omega) (ev_pos (by omega) (ev_pos (by omega) (ev_some (by rw [if_pos h, if_neg hb])))))
  · exact ev_neg h (ev_some (by rw [if_neg h]))
theorem spec_getText_ev (xs : List Int) (hx : ∀ x ∈ xs, 0 ≤ x ∧ x ≤ 255) (hlen : xs.length ≤ 140737488351232) (a : Int) : Ev (fun k => spec_GetText.f k xs a) (getText xs a) := by
  unfold spec_GetText.f getText
  refine Ev.bind (spec_getNum_ev xs hx hlen a) ?_
  by_cases h : (getNum xs a).2.2 = true
  · obtain ⟨h0, h1, h2, h3⟩ := getNum_ok xs a h
    generalize getNum xs a = g at h h0 h1 h2 h3 ⊢
    obtain ⟨n, q, ok⟩ := g
    simp only at h h0 h1 h2 h3 ⊢
    have hw : wrap64 ((xs.length : Int) - q) = (xs.length : Int) - q ∧ wrap64 (q + n) = q + n := ⟨w64 (by omega) (by omega), w64 (by omega) (by omega)⟩
    rw [hw.1, hw.2]
    clear hw
    refine ev_pos h ?_
    by_cases hb : n > xs.length - q
    · exact ev_pos hb (ev_some (by rw [if_pos h, if_pos hb]))
    · exact ev_neg hb (ev_pos (by omega) (ev_pos (by omega) (ev_pos (by omega) (ev_some (by rw [if_pos h, if_neg hb])))))
  · exact ev_neg h (ev_some (by rw [if_neg h]))
theorem FnExactGetText : laws_FnExactGetText.Pure := by
  intro xs a _ hn hx ha
  refine (?_ : Ev (fun k => laws_FnExactGetText.f k xs a) true).rounds
  have hb : ∀ x ∈ xs, 0 ≤ x ∧ x ≤ 255 := fun x h => wfu8 (hx x h)
  have hl : xs.length ≤ 140737488351232 := by omega
  unfold laws_FnExactGetText.f
  refine ev_if (fun _ => ev_some rfl) (fun _ => ?_)
  refine Ev.bind (toByteS_ev xs hl) (Ev.bind (spec_getText_ev xs hb hl a) (Ev.bind (toByteS_ev xs hl) (Ev.bind (impl_getText_ev xs hb hl a) (ev_pos (by trivial) (ev_pos (by trivial) ?_)))))
  refine Ev.step (fun _ => rfl) ?_
  simp only [laws_FnExactGetText.j0]
  exact ev_neg (by simp) (Ev.bind (toByteS_ev xs hl) (Ev.bind (eqByteS_ev xs hl) (ev_pos (by trivial) (ev_some rfl))))

end Go.Proofs.Ytpmgajcjanihhaa.Pure
