/- A number and a text come back out of their bytes; one byte another tells another check sum. -/
import Derived.Test.YtpmgajcjanihhaaPFnNumbersx3
import Derived.Test.YtpmgajcjanihhaaAid
namespace Go.Proofs.Ytpmgajcjanihhaa.Pure
open Go.RowKit Go.Proofs.Ytpmgajcjanihhaa.PFnNumbers Go.Proofs.YtpmgajcjanihhaaW.PrintWords Go.Proofs.YtpmgajcjanihhaaW.PrintLast Go.Proofs.YtpmgajcjanihhaaW.PrintMore Go.Proofs.Ytpmgajcjanihhaa.Aid

/-- Seven bits a byte, the low ones first; 128 more in each but the last. -/
def pnum : Nat → Nat → List Int
  | 0, n => [(n : Int)]
  | d + 1, n => if 128 ≤ n then (((n % 128 + 128 : Nat)) : Int) :: pnum d (n / 128) else [(n : Int)]
def putNum (a : Int) : List Int := if 0 ≤ a ∧ a ≤ 2147483647 then pnum 4 a.toNat else []
theorem pnum_length (d n : Nat) : (pnum d n).length ≤ d + 1 := by
  induction d generalizing n with
  | zero => simp [pnum]
  | succ d ih =>
    unfold pnum
    split
    · have := ih (n / 128)
      simp
      omega
    · simp
theorem putNum_length (a : Int) : (putNum a).length ≤ 5 := by
  unfold putNum
  split
  · exact pnum_length 4 _
  · simp
theorem impl_putNum_at (d : Nat) : ∀ (n : Nat) (x3 : List Int), n < 128 ^ (d + 1) → n ≤ 2147483647 → x3.length + d ≤ 100 →
    Ev (fun k => impl_PutNum.l0 k (n : Int) x3) (x3 ++ pnum d n) := by
  induction d with
  | zero =>
    intro n x3 hn hm hl
    refine Ev.step (fun _ => rfl) ?_
    simp only [impl_PutNum.l0]
    refine ev_neg (by omega) (ev_pos (by omega) (ev_some ?_))
    rw [Int.emod_eq_of_lt (by omega) (by omega)]
    rfl
  | succ d ih =>
    intro n x3 hn hm hl
    refine Ev.step (fun _ => rfl) ?_
    simp only [impl_PutNum.l0]
    by_cases h : 128 ≤ n
    · refine ev_pos (by omega) (ev_pos (by omega) ?_)
      have e1 : wrap64 (Int.tdiv (n : Int) 128) = ((n / 128 : Nat) : Int) := by
        rw [Int.tdiv_eq_ediv_of_nonneg (by omega), w64 (by omega) (by omega)]
        omega
      have e2 : (wrap64 ((Int.tmod (n : Int) 128) + 128)) % 256 = (((n % 128 + 128 : Nat)) : Int) := by
        rw [Int.tmod_eq_emod_of_nonneg (by omega), w64 (by omega) (by omega)]
        omega
      rw [e1, e2]
      have := ih (n / 128) (x3 ++ [(((n % 128 + 128 : Nat)) : Int)]) (by rw [Nat.pow_succ] at hn; omega) (by omega) (by simp; omega)
      rw [List.append_assoc] at this
      unfold pnum
      rw [if_pos h]
      exact this
    · refine ev_neg (by omega) (ev_pos (by omega) (ev_some ?_))
      rw [Int.emod_eq_of_lt (by omega) (by omega)]
      unfold pnum
      rw [if_neg h]
theorem impl_putNum_ev (a : Int) : Ev (fun k => impl_PutNum.f k a) (putNum a) := by
  unfold impl_PutNum.f impl_within.f putNum
  by_cases h : 0 ≤ a ∧ a ≤ 2147483647
  · rw [if_pos h, if_pos h.1]
    obtain ⟨n, rfl⟩ := Int.eq_ofNat_of_zero_le h.1
    refine ev_bind0 rfl (ev_pos (by simp; omega) ?_)
    exact impl_putNum_at 4 n [] (by omega) (by omega) (by simp)
  · rw [if_neg h]
    by_cases h0 : 0 ≤ a
    · rw [if_pos h0]
      exact ev_bind0 rfl (ev_neg (by simp; omega) (ev_some rfl))
    · rw [if_neg h0]
      exact ev_bind0 rfl (ev_neg (by simp) (ev_some rfl))
theorem spec_putNum_at (d : Nat) : ∀ (n : Nat) (x3 : List Int), n < 128 ^ (d + 1) → n ≤ 2147483647 → x3.length + d ≤ 100 →
    Ev (fun k => spec_PutNum.l0 k (n : Int) x3) (x3 ++ pnum d n) := by
  induction d with
  | zero =>
    intro n x3 hn hm hl
    refine Ev.step (fun _ => rfl) ?_
    simp only [spec_PutNum.l0]
    refine ev_neg (by omega) (ev_pos (by omega) (ev_some ?_))
    rw [Int.emod_eq_of_lt (by omega) (by omega)]
    rfl
  | succ d ih =>
    intro n x3 hn hm hl
    refine Ev.step (fun _ => rfl) ?_
    simp only [spec_PutNum.l0]
    by_cases h : 128 ≤ n
    · refine ev_pos (by omega) (ev_pos (by omega) ?_)
      have e1 : wrap64 (Int.tdiv (n : Int) 128) = ((n / 128 : Nat) : Int) := by
        rw [Int.tdiv_eq_ediv_of_nonneg (by omega), w64 (by omega) (by omega)]
        omega
      have e2 : (wrap64 ((Int.tmod (n : Int) 128) + 128)) % 256 = (((n % 128 + 128 : Nat)) : Int) := by
        rw [Int.tmod_eq_emod_of_nonneg (by omega), w64 (by omega) (by omega)]
        omega
      rw [e1, e2]
      have := ih (n / 128) (x3 ++ [(((n % 128 + 128 : Nat)) : Int)]) (by rw [Nat.pow_succ] at hn; omega) (by omega) (by simp; omega)
      rw [List.append_assoc] at this
      unfold pnum
      rw [if_pos h]
      exact this
    · refine ev_neg (by omega) (ev_pos (by omega) (ev_some ?_))
      rw [Int.emod_eq_of_lt (by omega) (by omega)]
      unfold pnum
      rw [if_neg h]
theorem spec_putNum_ev (a : Int) : Ev (fun k => spec_PutNum.f k a) (putNum a) := by
  unfold spec_PutNum.f spec_l1In.f putNum
  by_cases h : 0 ≤ a ∧ a ≤ 2147483647
  · rw [if_pos h, if_pos h.1]
    obtain ⟨n, rfl⟩ := Int.eq_ofNat_of_zero_le h.1
    refine ev_bind0 rfl (ev_bind0 rfl (ev_pos (by simp; omega) ?_))
    exact spec_putNum_at 4 n [] (by omega) (by omega) (by simp)
  · rw [if_neg h]
    by_cases h0 : 0 ≤ a
    · rw [if_pos h0]
      exact ev_bind0 rfl (ev_bind0 rfl (ev_neg (by simp; omega) (ev_some rfl)))
    · rw [if_neg h0]
      exact ev_bind0 rfl (ev_bind0 rfl (ev_neg (by simp) (ev_some rfl)))
theorem pnum_len (d : Nat) : ∀ i n, i ≤ d → 128 ^ i ≤ n → n < 128 ^ (i + 1) → (pnum d n).length = i + 1 := by
  induction d with
  | zero =>
    intro i n hi _ _
    obtain rfl : i = 0 := by omega
    rfl
  | succ d ih =>
    intro i n hi h0 h1
    unfold pnum
    cases i with
    | zero => rw [if_neg (by omega)]; rfl
    | succ i =>
      have hp : 0 < 128 ^ i := Nat.pow_pos (by omega)
      rw [Nat.pow_succ] at h0 h1
      rw [if_pos (by omega), List.length_cons, ih i (n / 128) (by omega) (by omega) (by omega)]
theorem pnum_short (d : Nat) : ∀ i n, n < 128 ^ (i + 1) → (pnum d n).length ≤ i + 1 := by
  induction d with
  | zero =>
    intro i n _
    simp [pnum]
  | succ d ih =>
    intro i n h1
    unfold pnum
    split
    · cases i with
      | zero => omega
      | succ i =>
        rw [Nat.pow_succ] at h1
        have := ih i (n / 128) (by omega)
        rw [List.length_cons]
        omega
    · simp
/-- The number that is read, from byte i of it on. -/
def gnum (xs : List Int) (a : Nat) : Nat → Nat → Nat → Int × Int × Bool
  | 0, _, _ => (0, 0, false)
  | d + 1, i, n =>
    if a + i < xs.length then
      if rd xs ((a + i : Nat) : Int) < 128 then
        if (0 < i ∧ rd xs ((a + i : Nat) : Int) = 0) ∨ n + (rd xs ((a + i : Nat) : Int)).toNat % 128 * 2 ^ (7 * i) > 2147483647 then (0, 0, false)
        else (((n + (rd xs ((a + i : Nat) : Int)).toNat % 128 * 2 ^ (7 * i) : Nat) : Int), ((a + i + 1 : Nat) : Int), true)
      else gnum xs a d (i + 1) (n + (rd xs ((a + i : Nat) : Int)).toNat % 128 * 2 ^ (7 * i))
    else (0, 0, false)
def getNum (xs : List Int) (a : Int) : Int × Int × Bool := if 0 ≤ a ∧ a < xs.length then gnum xs a.toNat 5 0 0 else (0, 0, false)
theorem put_fits (c i n : Nat) (hi : i < 5) (hn : n < 2 ^ (7 * i)) (hc : c < 128) :
    ((((putNum ((n + c * 2 ^ (7 * i) : Nat) : Int)).length : Int)) = ((i + 1 : Nat) : Int)) ↔ ¬ ((0 < i ∧ c = 0) ∨ n + c * 2 ^ (7 * i) > 2147483647) := by
  have e : 2 ^ (7 * i) = 128 ^ i := by rw [Nat.pow_mul]
  rw [e] at hn ⊢
  have hp : 0 < 128 ^ i := Nat.pow_pos (by omega)
  unfold putNum
  by_cases hb : n + c * 128 ^ i > 2147483647
  · rw [if_neg (by omega)]
    simp [hb]
    omega
  · rw [if_pos (by omega), Int.toNat_natCast]
    have h5 : n + c * 128 ^ i < 128 ^ (i + 1) := by
      rw [Nat.pow_succ]
      have : c * 128 ^ i ≤ 127 * 128 ^ i := Nat.mul_le_mul_right _ (by omega)
      omega
    by_cases h0 : 0 < i ∧ c = 0
    · obtain ⟨h0, rfl⟩ := h0
      obtain ⟨j, rfl⟩ : ∃ j, i = j + 1 := ⟨i - 1, by omega⟩
      have := pnum_short 4 j (n + 0 * 128 ^ (j + 1)) (by simpa using hn)
      constructor
      · intro h
        omega
      · intro h
        exact absurd (Or.inl ⟨h0, rfl⟩) h
    · by_cases hi0 : i = 0
      · subst hi0
        have := pnum_len 4 0 (n + c * 128 ^ 0)
        simp at hn
        subst hn
        unfold pnum
        rw [if_neg (by omega)]
        simp
        omega
      · have : 1 ≤ c := by omega
        have h1 : 1 * 128 ^ i ≤ c * 128 ^ i := Nat.mul_le_mul_right _ this
        rw [pnum_len 4 i _ (by omega) (by omega) h5]
        constructor
        · intro _ h
          omega
        · intro _
          rfl
theorem impl_getNum_at (xs : List Int) (hx : ∀ x ∈ xs, 0 ≤ x ∧ x ≤ 255) (hlen : xs.length ≤ 140737488351232) (a : Nat) (ha : a < xs.length) (d : Nat) : ∀ (i n : Nat), i + d = 5 → n < 2 ^ (7 * i) →
    Ev (fun k => impl_GetNum.l0 k xs (a : Int) (n : Int) (i : Int)) (gnum xs a d i n) := by
  induction d with
  | zero =>
    intro i n hi hn
    refine Ev.step (fun _ => rfl) ?_
    simp only [impl_GetNum.l0]
    refine ev_neg (by omega) ?_
    refine Ev.step (fun _ => rfl) ?_
    simp only [impl_GetNum.j1]
    exact ev_neg (by simp) (ev_some rfl)
  | succ d ih =>
    intro i n hi hn
    refine Ev.step (fun _ => rfl) ?_
    simp only [impl_GetNum.l0]
    refine ev_pos (by omega) ?_
    refine Ev.step (fun _ => rfl) ?_
    simp only [impl_GetNum.j1]
    have e0 : wrap64 ((a : Int) + (i : Int)) = ((a + i : Nat) : Int) := by rw [w64 (by omega) (by omega)]; omega
    rw [e0]
    unfold gnum
    by_cases hlt : a + i < xs.length
    · rw [if_pos hlt]
      have hr := rd_byte hx ((a + i : Nat) : Int)
      generalize rd xs ((a + i : Nat) : Int) = c at hr ⊢
      obtain ⟨c, rfl⟩ := Int.eq_ofNat_of_zero_le hr.1
      have hf := put_fits (c % 128) i n (by omega) hn (by omega)
      have hsv := seven n c i (by omega) hn
      have hw : (wrap64 (7 * (i : Int)) = ((7 * i : Nat) : Int)) ∧ (Int.tmod (c : Int) 128 = ((c % 128 : Nat) : Int)) ∧ (wrap64 ((i : Int) + 1) = ((i + 1 : Nat) : Int)) ∧ (wrap64 (((a + i : Nat) : Int) + 1) = ((a + i + 1 : Nat) : Int)) ∧ (wrap64 (c : Int) = (c : Int)) :=
        ⟨by rw [w64 (by omega) (by omega)]; omega, by rw [Int.tmod_eq_emod_of_nonneg (by omega)]; omega, by rw [w64 (by omega) (by omega)]; omega, by rw [w64 (by omega) (by omega)]; omega, w64 (by omega) (by omega)⟩
      obtain ⟨M, hM, e3, e4, e4', hlt2⟩ := hsv
      obtain ⟨e1, e2, e5, e6, e7⟩ := hw
      simp only [← hM, e1, e2, e3, e4, e5, e6, e7, Int.toNat_natCast]
      rw [← hM] at hf
      clear hM hn e1 e2 e3 e4 e4' e5 e6 e7
      refine ev_pos (by simp; omega) (ev_pos (by omega) (ev_pos (by omega) (ev_pos (by omega) ?_)))
      by_cases h8 : (c : Int) < 128
      · rw [if_pos h8]
        refine ev_pos h8 (Ev.bind (impl_putNum_ev _) ?_)
        have hc0 : (c : Int) = 0 ↔ c % 128 = 0 := by omega
        simp only [hc0]
        by_cases hz : (0 < i ∧ c % 128 = 0) ∨ n + M > 2147483647
        · rw [if_pos hz]
          exact ev_neg (by rw [hf]; simp only [hz, not_true_eq_false, not_false_eq_true]) (ev_some rfl)
        · rw [if_neg hz]
          exact ev_pos (hf.2 hz) (ev_some rfl)
      · rw [if_neg h8]
        refine ev_neg h8 ?_
        exact ih (i + 1) _ (by omega) (hlt2 _ rfl)
    · rw [if_neg hlt]
      exact ev_neg (by simp; omega) (ev_some rfl)
theorem impl_getNum_ev (xs : List Int) (hx : ∀ x ∈ xs, 0 ≤ x ∧ x ≤ 255) (hlen : xs.length ≤ 140737488351232) (a : Int) : Ev (fun k => impl_GetNum.f k xs a) (getNum xs a) := by
  unfold impl_GetNum.f impl_within.f getNum
  rw [w64 (by omega) (by omega)]
  by_cases h : 0 ≤ a ∧ a < xs.length
  · rw [if_pos h, if_pos h.1]
    obtain ⟨n, rfl⟩ := Int.eq_ofNat_of_zero_le h.1
    refine ev_bind0 rfl (ev_pos (by simp; omega) ?_)
    exact impl_getNum_at xs hx hlen n (by omega) 5 0 0 (by omega) (by omega)
  · rw [if_neg h]
    by_cases h0 : 0 ≤ a
    · rw [if_pos h0]
      exact ev_bind0 rfl (ev_neg (by simp; omega) (ev_some rfl))
    · rw [if_neg h0]
      exact ev_bind0 rfl (ev_neg (by simp) (ev_some rfl))
theorem gnum_ok (xs : List Int) (a : Nat) (d : Nat) : ∀ i n : Nat, (gnum xs a d i n).2.2 = true → 0 ≤ (gnum xs a d i n).1 ∧ (gnum xs a d i n).1 ≤ 2147483647 ∧ 0 ≤ (gnum xs a d i n).2.1 ∧ (gnum xs a d i n).2.1 ≤ xs.length := by
  induction d with
  | zero =>
    intro i n h
    simp [gnum] at h
  | succ d ih =>
    intro i n h
    unfold gnum at h ⊢
    by_cases h1 : a + i < xs.length
    · rw [if_pos h1] at h ⊢
      by_cases h2 : rd xs ((a + i : Nat) : Int) < 128
      · rw [if_pos h2] at h ⊢
        generalize n + (rd xs ((a + i : Nat) : Int)).toNat % 128 * 2 ^ (7 * i) = m at h ⊢
        by_cases h3 : (0 < i ∧ rd xs ((a + i : Nat) : Int) = 0) ∨ m > 2147483647
        · rw [if_pos h3] at h
          simp at h
        · rw [if_neg h3]
          simp only
          omega
      · rw [if_neg h2] at h ⊢
        exact ih _ _ h
    · rw [if_neg h1] at h
      simp at h
theorem getNum_ok (xs : List Int) (a : Int) (h : (getNum xs a).2.2 = true) : 0 ≤ (getNum xs a).1 ∧ (getNum xs a).1 ≤ 2147483647 ∧ 0 ≤ (getNum xs a).2.1 ∧ (getNum xs a).2.1 ≤ xs.length := by
  unfold getNum at h ⊢
  by_cases h1 : 0 ≤ a ∧ a < xs.length
  · rw [if_pos h1] at h ⊢
    exact gnum_ok _ _ _ _ _ h
  · rw [if_neg h1] at h
    simp at h
def getText (xs : List Int) (a : Int) : ByteArray × Int × Bool :=
  if (getNum xs a).2.2 = true then
    if (getNum xs a).1 > xs.length - (getNum xs a).2.1 then ((⟨#[]⟩ : ByteArray), 0, false)
    else (strOfNums ((xs.take ((getNum xs a).2.1 + (getNum xs a).1).toNat).drop ((getNum xs a).2.1).toNat), (getNum xs a).2.1 + (getNum xs a).1, true)
  else ((⟨#[]⟩ : ByteArray), 0, false)
theorem impl_getText_ev (xs : List Int) (hx : ∀ x ∈ xs, 0 ≤ x ∧ x ≤ 255) (hlen : xs.length ≤ 140737488351232) (a : Int) : Ev (fun k => impl_GetText.f k xs a) (getText xs a) := by
  unfold impl_GetText.f getText
  refine Ev.bind (impl_getNum_ev xs hx hlen a) ?_
  by_cases h : (getNum xs a).2.2 = true
  · obtain ⟨h0, h1, h2, h3⟩ := getNum_ok xs a h
    generalize getNum xs a = g at h h0 h1 h2 h3 ⊢
    obtain ⟨n, q, ok⟩ := g
    simp only at h h0 h1 h2 h3 ⊢
    have hw : wrap64 ((xs.length : Int) - q) = (xs.length : Int) - q ∧ wrap64 (q + n) = q + n := ⟨w64 (by omega) (by omega), w64 (by omega) (by omega)⟩
    rw [hw.1, hw.2]
    clear hw
    refine ev_pos h ?_
    by_cases hb : n > xs.length - q
    · exact ev_pos hb (ev_some (by rw [if_pos h, if_pos hb]))
    · exact ev_neg hb (ev_pos (by omega) (ev_pos (by omega) (ev_pos (by omega) (ev_some (by rw [if_pos h, if_neg hb])))))
  · exact ev_neg h (ev_some (by rw [if_neg h]))
/-- One bit's step of the check sum, and some of them. -/
def crc1 (x : Nat) : Nat := if x % 2 = 1 then x / 2 ^^^ 3988292384 else x / 2
def crcN : Nat → Nat → Nat
  | 0, x => x
  | d + 1, x => crcN d (crc1 x)
theorem crc1_lt {x : Nat} (h : x < 2 ^ 32) : crc1 x < 2 ^ 32 := by
  unfold crc1
  split
  · exact Nat.xor_lt_two_pow (by omega) (by omega)
  · omega
theorem crcN_lt (d : Nat) : ∀ {x : Nat}, x < 2 ^ 32 → crcN d x < 2 ^ 32 := by
  induction d with
  | zero => exact fun h => h
  | succ d ih => exact fun h => ih (crc1_lt h)
/-- The check sum's state behind bytes. -/
def crcL (x : Nat) (l : List Int) : Nat := l.foldl (fun x b => crcN 8 (x ^^^ b.toNat)) x
theorem crcL_lt (l : List Int) (hb : ∀ b ∈ l, 0 ≤ b ∧ b ≤ 255) : ∀ {x : Nat}, x < 2 ^ 32 → crcL x l < 2 ^ 32 := by
  induction l with
  | nil => exact fun h => h
  | cons b l ih =>
    intro x h
    have := hb b (by simp)
    exact ih (fun c hc => hb c (by simp [hc])) (crcN_lt 8 (Nat.xor_lt_two_pow h (by omega)))
def crc (l : List Int) : Int := ((crcL 4294967295 l ^^^ 4294967295 : Nat) : Int)
theorem crcL_snoc (x : Nat) (l : List Int) (b : Int) : crcL x (l ++ [b]) = crcN 8 (crcL x l ^^^ b.toNat) := by
  unfold crcL
  rw [List.foldl_append]
  rfl
theorem impl_crc_bits (xs : List Int) (n j r : Int) (d : Nat) : ∀ (x i : Nat), i + d = 8 → x < 2 ^ 32 → Ev (fun k => impl_Crc.l0 k ((crcN d x : Nat) : Int) xs n (wrap64 (j + 1))) r →
    Ev (fun k => impl_Crc.l1 k (x : Int) (i : Int) xs n j) r := by
  induction d with
  | zero =>
    intro x i hi hx h
    refine Ev.step (fun _ => rfl) ?_
    simp only [impl_Crc.l1]
    exact ev_neg (by omega) h
  | succ d ih =>
    intro x i hi hx h
    refine Ev.step (fun _ => rfl) ?_
    simp only [impl_Crc.l1]
    have e1 : Go.bits .and .i64 (x : Int) 1 = ((x % 2 : Nat) : Int) := by
      have := and64 x 1 (by omega) (by omega)
      rw [Nat.and_one_is_mod] at this
      exact this
    have e2 : (x : Int) / 2 = ((x / 2 : Nat) : Int) := by omega
    have e3 : wrap64 ((i : Int) + 1) = ((i + 1 : Nat) : Int) := by rw [w64 (by omega) (by omega)]; omega
    have e4 : Go.bits .xor .i64 ((x / 2 : Nat) : Int) 3988292384 = ((x / 2 ^^^ 3988292384 : Nat) : Int) := xor64 (x / 2) 3988292384 (by omega) (by omega)
    rw [e1, e2, e3, e4]
    have hl := crc1_lt hx
    unfold crcN crc1 at h
    unfold crc1 at hl
    refine ev_pos (by omega) (ev_if (fun ho => ?_) (fun ho => ?_))
    · rw [if_pos (by omega)] at h hl
      exact ih _ (i + 1) (by omega) hl h
    · rw [if_neg (by omega)] at h hl
      exact ih _ (i + 1) (by omega) hl h
theorem impl_crc_at (xs : List Int) (hb : ∀ b ∈ xs, 0 ≤ b ∧ b ≤ 255) (hn : xs.length ≤ 140737488351232) (d : Nat) : ∀ i, i + d = xs.length →
    Ev (fun k => impl_Crc.l0 k ((crcL 4294967295 (xs.take i) : Nat) : Int) xs (xs.length : Int) (i : Int)) (crc xs) := by
  induction d with
  | zero =>
    intro i hi
    refine Ev.step (fun _ => rfl) ?_
    simp only [impl_Crc.l0]
    have hl := crcL_lt (xs.take i) (fun b h => hb b (List.mem_of_mem_take h)) (show 4294967295 < 2 ^ 32 by omega)
    refine ev_neg (by omega) (ev_some ?_)
    have := xor64 (crcL 4294967295 (xs.take i)) 4294967295 (by omega) (by omega)
    rw [List.take_of_length_le (by omega)] at this ⊢
    exact this
  | succ d ih =>
    intro i hi
    refine Ev.step (fun _ => rfl) ?_
    simp only [impl_Crc.l0]
    refine ev_pos (by omega) (ev_pos (by omega) (ev_pos (by omega) ?_))
    have hl := crcL_lt (xs.take i) (fun b h => hb b (List.mem_of_mem_take h)) (show 4294967295 < 2 ^ 32 by omega)
    have hr := hb xs[i] (List.getElem_mem (by omega))
    have e3 : wrap64 ((i : Int) + 1) = ((i + 1 : Nat) : Int) := by rw [w64 (by omega) (by omega)]; omega
    have hih := ih (i + 1) (by omega)
    rw [List.take_succ_eq_append_getElem (show i < xs.length by omega), crcL_snoc] at hih
    rw [rd_get (show i < xs.length by omega)]
    generalize xs[i] = c at hr hih ⊢
    obtain ⟨c, rfl⟩ := Int.eq_ofNat_of_zero_le hr.1
    rw [w64 (x := (c : Int)) (by omega) (by omega), xor64 _ c (by omega) (by omega)]
    refine impl_crc_bits xs _ (i : Int) _ 8 _ 0 (by omega) (Nat.xor_lt_two_pow hl (by omega)) ?_
    rw [e3]
    exact hih
theorem impl_crc_ev (xs : List Int) (hb : ∀ b ∈ xs, 0 ≤ b ∧ b ≤ 255) (hn : xs.length ≤ 140737488351232) : Ev (fun k => impl_Crc.f k xs) (crc xs) := impl_crc_at xs hb hn xs.length 0 (by omega)
theorem xor_back {a b c : Nat} (h : a ^^^ c = b ^^^ c) : a = b := by
  have := congrArg (· ^^^ c) h
  simpa [Nat.xor_assoc] using this
theorem crc1_inj {x y : Nat} (hx : x < 2 ^ 32) (hy : y < 2 ^ 32) (h : crc1 x = crc1 y) : x = y := by
  have top : ∀ a b : Nat, a < 2 ^ 31 → b < 2 ^ 31 → a ^^^ 3988292384 = b → False := by
    intro a b ha hb e
    have := congrArg (fun n => n.testBit 31) e
    simp only [Nat.testBit_xor, Nat.testBit_lt_two_pow ha, Nat.testBit_lt_two_pow hb] at this
    revert this
    decide
  unfold crc1 at h
  by_cases h1 : x % 2 = 1 <;> by_cases h2 : y % 2 = 1
  · rw [if_pos h1, if_pos h2] at h
    have := xor_back h
    omega
  · rw [if_pos h1, if_neg h2] at h
    exact (top _ _ (by omega) (by omega) h).elim
  · rw [if_neg h1, if_pos h2] at h
    exact (top _ _ (by omega) (by omega) h.symm).elim
  · rw [if_neg h1, if_neg h2] at h
    omega
theorem crcN_inj (d : Nat) : ∀ {x y : Nat}, x < 2 ^ 32 → y < 2 ^ 32 → crcN d x = crcN d y → x = y := by
  induction d with
  | zero => exact fun _ _ h => h
  | succ d ih => exact fun hx hy h => crc1_inj hx hy (ih (crc1_lt hx) (crc1_lt hy) h)
theorem crcL_inj (l : List Int) (hb : ∀ b ∈ l, 0 ≤ b ∧ b ≤ 255) : ∀ {x y : Nat}, x < 2 ^ 32 → y < 2 ^ 32 → crcL x l = crcL y l → x = y := by
  induction l with
  | nil => exact fun _ _ h => h
  | cons b l ih =>
    intro x y hx hy h
    have hr := hb b (by simp)
    have hx' : x ^^^ b.toNat < 2 ^ 32 := Nat.xor_lt_two_pow hx (by omega)
    have hy' : y ^^^ b.toNat < 2 ^ 32 := Nat.xor_lt_two_pow hy (by omega)
    exact xor_back (crcN_inj 8 hx' hy' (ih (fun c hc => hb c (by simp [hc])) (crcN_lt 8 hx') (crcN_lt 8 hy') h))
/-- One byte another: another check sum. -/
theorem crcL_apart (l : List Int) : ∀ (i : Nat) (c : Int) (x : Nat) (hi : i < l.length), (∀ b ∈ l, 0 ≤ b ∧ b ≤ 255) → 0 ≤ c → c ≤ 255 → c ≠ l[i] → x < 2 ^ 32 → crcL x (l.set i c) ≠ crcL x l := by
  induction l with
  | nil =>
    intro i c x hi
    simp at hi
  | cons b l ih =>
    intro i c x hi hb h0 h1 hc hx h
    have hr := hb b (by simp)
    have hl : ∀ b ∈ l, 0 ≤ b ∧ b ≤ 255 := fun c hc => hb c (by simp [hc])
    have hx' : x ^^^ b.toNat < 2 ^ 32 := Nat.xor_lt_two_pow hx (by omega)
    cases i with
    | zero =>
      have hy' : x ^^^ c.toNat < 2 ^ 32 := Nat.xor_lt_two_pow hx (by omega)
      have := crcN_inj 8 hy' hx' (crcL_inj l hl (crcN_lt 8 hy') (crcN_lt 8 hx') h)
      rw [Nat.xor_comm x, Nat.xor_comm x] at this
      have := xor_back this
      simp only [List.getElem_cons_zero] at hc
      omega
    | succ i =>
      simp only [List.getElem_cons_succ] at hc
      exact ih i c _ (by simpa using hi) hl h0 h1 hc (crcN_lt 8 hx') h
theorem crc_apart (l : List Int) (hb : ∀ b ∈ l, 0 ≤ b ∧ b ≤ 255) (i : Nat) (hi : i < l.length) (c : Int) (h0 : 0 ≤ c) (h1 : c ≤ 255) (hc : c ≠ l[i]) : crc (l.set i c) ≠ crc l := by
  intro h
  unfold crc at h
  exact crcL_apart l i c 4294967295 hi hb h0 h1 hc (by omega) (xor_back (by exact_mod_cast h))
theorem crc_nonneg (l : List Int) : 0 ≤ crc l := Int.natCast_nonneg _
theorem and255 (x : Int) : 0 ≤ Go.bits .and .i64 x 255 ∧ Go.bits .and .i64 x 255 ≤ 255 := by
  have h : (BitVec.ofInt 64 x).toNat &&& 255 ≤ 255 := Nat.and_le_right
  have e : Go.bits .and .i64 x 255 = (((BitVec.ofInt 64 x).toNat &&& 255 : Nat) : Int) :=
    wraps_i64 _ (Int.natCast_nonneg _) (Int.lt_of_le_of_lt (Int.ofNat_le.mpr h) (by decide))
  rw [e]
  omega
theorem l1Byte_is (l : List Int) (hl : l.length ≤ 281474976702464) (p : Nat) (hp : p ≤ l.length) (r : Int) : ∃ (v q : Nat) (s : Int), spec_l1Byte.f l p r = some ((v : Int), (q : Int), s) ∧ v ≤ 255 ∧ q ≤ l.length := by
  unfold spec_l1Byte.f
  by_cases h : (p : Int) < (l.length : Int)
  · rw [if_pos h, if_pos (by omega)]
    obtain ⟨h0, h1⟩ := and255 (wrap64 ((Go.bits .and .i64 (Go.bits .xor .i64 ((wrap64 ((wrap64 (r * 6364136223846793005)) + 1442695040888963407)) / 8589934592) ((wrap64 ((wrap64 (r * 6364136223846793005)) + 1442695040888963407)) / 35184372088832)) 255) + (wrap64 (rd l p))))
    obtain ⟨v, hv⟩ := Int.eq_ofNat_of_zero_le h0
    rw [hv] at h1 ⊢
    exact ⟨v, p + 1, _, by rw [wsucc (by omega)], by omega, by omega⟩
  · rw [if_neg h]
    obtain ⟨h0, h1⟩ := and255 (Go.bits .xor .i64 ((wrap64 ((wrap64 (r * 6364136223846793005)) + 1442695040888963407)) / 8589934592) ((wrap64 ((wrap64 (r * 6364136223846793005)) + 1442695040888963407)) / 35184372088832))
    obtain ⟨v, hv⟩ := Int.eq_ofNat_of_zero_le h0
    rw [hv] at h1 ⊢
    exact ⟨v, p, _, rfl, by omega, hp⟩
/-- A draw below a small number that is not none. -/
theorem l1Below_is (l : List Int) (hl : l.length ≤ 281474976702464) (p : Nat) (hp : p ≤ l.length) (r : Int) (n : Nat) (h0 : 0 < n) (h1 : n ≤ 256) :
    ∃ (v q : Nat) (s : Int), spec_l1Below.f l p r (n : Int) = some ((v : Int), (q : Int), s) ∧ v < n ∧ q ≤ l.length := by
  obtain ⟨v, q, s, e, hv, hq⟩ := l1Byte_is l hl p hp r
  refine ⟨v % n, q, s, ?_, Nat.mod_lt _ h0, hq⟩
  unfold spec_l1Below.f
  rw [if_neg (by omega), if_pos (by omega), e]
  simp only [Option.bind_some]
  rw [if_neg (by omega), Int.tmod_eq_emod_of_nonneg (by omega)]
  rfl
theorem l1New_at (l : List Int) (d : Nat) : ∀ (i : Nat) (x : Int), i + d = l.length → ∃ s, Ev (fun k => spec_l1New.l0 k l x (i : Int)) (l, 0, s) := by
  induction d with
  | zero =>
    intro i x hi
    refine ⟨x, Ev.step (fun _ => rfl) ?_⟩
    simp only [spec_l1New.l0]
    exact ev_neg (by omega) (ev_some rfl)
  | succ d ih =>
    intro i x hi
    by_cases h4 : i < 4000
    · obtain ⟨s, hs⟩ := ih (i + 1) (Go.bits .and .i64 (wrap64 ((wrap64 ((wrap64 (x * 131)) + (wrap64 (rd l i)))) + 7)) 1073741823) (by omega)
      refine ⟨s, Ev.step (fun _ => rfl) ?_⟩
      simp only [spec_l1New.l0]
      refine ev_pos (by omega) (ev_pos (by omega) (ev_pos (by omega) ?_))
      rw [wsucc (by omega)]
      exact hs
    · refine ⟨x, Ev.step (fun _ => rfl) ?_⟩
      simp only [spec_l1New.l0]
      exact ev_pos (by omega) (ev_neg (by omega) (ev_some rfl))
theorem l1New_ev (l : List Int) : ∃ s, Ev (fun k => spec_l1New.f k l) (l, 0, s) := l1New_at l l.length 0 _ (by omega)
def nums : List Int := [0, 1, 127, 128, 300, 16384, 2147483647, 2147483648, (-1), 9223372036854775807]
def texts : List ByteArray := [(⟨#[]⟩ : ByteArray), (⟨#[97]⟩ : ByteArray), (⟨#[116, 119, 111, 32, 119, 111, 114, 100, 115]⟩ : ByteArray), (⟨#[0, 255]⟩ : ByteArray)]
def wire (n : Int) (s : ByteArray) : List Int := [7] ++ putNum n ++ (putNum (s.size : Int) ++ bytesOf s)
theorem draw_num (l : List Int) (hl : l.length ≤ 281474976702464) : ∃ n ∈ nums, Ev (fun k => spec_DrawPutNum.f k l) n := by
  obtain ⟨s, hs⟩ := l1New_ev l
  obtain ⟨v, q, s', e, hv, hq⟩ := l1Below_is l hl 0 (by omega) s nums.length (by decide) (by decide)
  refine ⟨nums[v], List.getElem_mem hv, ?_⟩
  unfold spec_DrawPutNum.f
  refine Ev.bind hs (ev_bind0 (a := (nums[v], (q : Int), s')) ?_ (ev_some rfl))
  have he : spec_l1Below.f l 0 s (nums.length : Int) = some ((v : Int), (q : Int), s') := e
  show (spec_l1Below.f l 0 s (nums.length : Int)).bind (fun bt133 => (if 0 ≤ bt133.1 then (if bt133.1 < (nums.length : Int) then (some (rd nums bt133.1, bt133.2.1, bt133.2.2)) else (none)) else (none))) = _
  rw [he]
  simp only [Option.bind_some]
  rw [if_pos (by omega), if_pos (by omega), rd_get hv]
theorem draw_text (l : List Int) (hl : l.length ≤ 281474976702464) : ∃ s ∈ texts, Ev (fun k => spec_DrawPutText.f k l) s := by
  obtain ⟨s, hs⟩ := l1New_ev l
  obtain ⟨v, q, s', e, hv, hq⟩ := l1Below_is l hl 0 (by omega) s texts.length (by decide) (by decide)
  refine ⟨texts[v], List.getElem_mem hv, ?_⟩
  unfold spec_DrawPutText.f
  refine Ev.bind hs (ev_bind0 (a := (texts[v], (q : Int), s')) ?_ (ev_some rfl))
  have he : spec_l1Below.f l 0 s (texts.length : Int) = some ((v : Int), (q : Int), s') := e
  show (spec_l1Below.f l 0 s (texts.length : Int)).bind (fun bt150 => (if 0 ≤ bt150.1 then (if bt150.1 < (texts.length : Int) then (some (rdOf ByteArray.empty texts bt150.1, bt150.2.1, bt150.2.2)) else (none)) else (none))) = _
  rw [he]
  simp only [Option.bind_some]
  rw [if_pos (by omega), if_pos (by omega)]
  unfold rdOf
  rw [Int.toNat_natCast, List.getD_eq_getElem?_getD, List.getElem?_eq_getElem hv]
  rfl
theorem wire_facts : ∀ n ∈ nums, ∀ s ∈ texts, (wire n s).length ≤ 17 ∧ 0 < (wire n s).length ∧ (∀ b ∈ wire n s, 0 ≤ b ∧ b ≤ 255) ∧
    (0 < (putNum n).length → getNum (wire n s) 1 = (n, 1 + ((putNum n).length : Int), true)) ∧
    (getText (wire n s) (1 + ((putNum n).length : Int))).1.data.toList = s.data.toList ∧ (getText (wire n s) (1 + ((putNum n).length : Int))).2 = (((wire n s).length : Int), true) := by
  decide
theorem at0_is (l : List Int) (hl : l.length ≤ 281474976702464) (hx : ∀ x ∈ l, 0 ≤ x ∧ x ≤ 255) (i : Nat) (hi : i ≤ 100) : ∃ v : Nat, laws_at0.f l (i : Int) = some (v : Int) ∧ v ≤ 255 := by
  unfold laws_at0.f
  by_cases h : (i : Int) < (l.length : Int)
  · rw [if_pos h, if_pos (by omega)]
    have hr := rd_byte hx (i : Int)
    obtain ⟨v, hv⟩ := Int.eq_ofNat_of_zero_le hr.1
    rw [hv] at hr ⊢
    exact ⟨v, by rw [w64 (by omega) (by omega)], by omega⟩
  · rw [if_neg h]
    refine ⟨(i * 7 + l.length) % 256, ?_, by omega⟩
    rw [w64 (x := (i : Int) * 7) (by omega) (by omega), w64 (by omega) (by omega), Int.tmod_eq_emod_of_nonneg (by omega)]
    rfl
theorem back_j1 (l : List Int) (hl : l.length ≤ 281474976702464) (hx : ∀ x ∈ l, 0 ≤ x ∧ x ≤ 255) (b : List Int) (h0 : 0 < b.length) (h1 : b.length ≤ 17) (hb : ∀ x ∈ b, 0 ≤ x ∧ x ≤ 255) : Ev (fun k => laws_FnNumbers.j1 k l b false) true := by
  obtain ⟨v, ev, hv⟩ := at0_is l hl hx 3 (by omega)
  obtain ⟨u, eu, hu⟩ := at0_is l hl hx 4 (by omega)
  refine Ev.step (fun _ => rfl) ?_
  simp only [laws_FnNumbers.j1]
  refine ev_neg (by simp) (ev_bind0 rfl (ev_pos (by simp; omega) (ev_bind0 rfl (ev_bind0 ev (ev_neg (by omega) ?_)))))
  have em : Int.tmod (v : Int) (b.length : Int) = ((v % b.length : Nat) : Int) := by
    rw [Int.tmod_eq_emod_of_nonneg (by omega)]
    rfl
  have hm : v % b.length < b.length := Nat.mod_lt _ h0
  have ew : wrap64 (1 + Int.tmod (u : Int) 255) = ((1 + u % 255 : Nat) : Int) := by
    rw [Int.tmod_eq_emod_of_nonneg (by omega), w64 (by omega) (by omega)]
    omega
  rw [em]
  refine ev_pos (by omega) (ev_pos (by simp; omega) (ev_bind0 eu ?_))
  rw [ew, List.nil_append, rd_get hm, Int.toNat_natCast]
  generalize v % b.length = i at hm ⊢
  have hr := hb b[i] (List.getElem_mem hm)
  have hu2 : u % 255 ≤ 254 := by omega
  generalize u % 255 = m at hu2 ⊢
  have hc : (b[i] + ((1 + m : Nat) : Int) % 256) % 256 ≠ b[i] := by omega
  have hc0 : 0 ≤ (b[i] + ((1 + m : Nat) : Int) % 256) % 256 := by omega
  have hc1 : (b[i] + ((1 + m : Nat) : Int) % 256) % 256 ≤ 255 := by omega
  generalize (b[i] + ((1 + m : Nat) : Int) % 256) % 256 = c at hc hc0 hc1 ⊢
  have hs : ∀ x ∈ b.set i c, 0 ≤ x ∧ x ≤ 255 := by
    intro x h
    rcases List.mem_or_eq_of_mem_set h with h | rfl
    · exact hb x h
    · exact ⟨hc0, hc1⟩
  refine Ev.bind (impl_crc_ev _ hs (by rw [List.length_set]; omega)) (Ev.bind (impl_crc_ev b hb (by omega)) (ev_neg (crc_apart b hb i hm c hc0 hc1 hc) ?_))
  exact Ev.bind (impl_crc_ev b hb (by omega)) (ev_some (by simp [crc_nonneg]))
theorem back_j0 (l : List Int) (hl : l.length ≤ 281474976702464) (hx : ∀ x ∈ l, 0 ≤ x ∧ x ≤ 255) (n : Int) (hn : n ∈ nums) (s : ByteArray) (hs : s ∈ texts) : Ev (fun k => laws_FnNumbers.j0 k l s (wire n s) (1 + ((putNum n).length : Int))) true := by
  obtain ⟨h1, h0, hb, _, ht, hr⟩ := wire_facts n hn s hs
  refine Ev.step (fun _ => rfl) ?_
  simp only [laws_FnNumbers.j0]
  refine Ev.bind (impl_getText_ev (wire n s) hb (by omega) _) ?_
  rw [hr]
  refine ev_pos rfl (ev_pos (congrArg ByteArray.toList (ByteArray.ext (Array.toList_inj.mp ht))) ?_)
  have : (((wire n s).length : Int) != ((wire n s).length : Int)) = false := by simp
  rw [this]
  exact back_j1 l hl hx _ h0 h1 hb
theorem FnNumbers : laws_FnNumbers.Pure := by
  intro l hl _ hx
  have hx' : ∀ x ∈ l, 0 ≤ x ∧ x ≤ 255 := fun x h => wfu8 (hx x h)
  refine (?_ : Ev (fun k => laws_FnNumbers.f k l) true).rounds
  unfold laws_FnNumbers.f laws_big.f
  refine ev_bind0 rfl ?_
  by_cases hg : (l.length : Int) > 1048576
  · exact ev_pos (by simpa using hg) (ev_some rfl)
  have hl : l.length ≤ 281474976702464 := by omega
  refine ev_neg (by simpa using hg) ?_
  obtain ⟨n, hn, en⟩ := draw_num l hl
  obtain ⟨s, hs, es⟩ := draw_text l hl
  obtain ⟨h1, h0, hb, hnum, _, _⟩ := wire_facts n hn s hs
  have hp := putNum_length n
  have hq := putNum_length (s.size : Int)
  have hwl : (wire n s).length = 1 + (putNum n).length + ((putNum (s.size : Int)).length + (bytesOf s).length) := by simp [wire]; omega
  have hsz : s.size ≤ 20 := by
    have : ∀ s ∈ texts, s.size ≤ 20 := by decide
    exact this s hs
  refine Ev.bind en (Ev.bind es (Ev.bind (impl_putNum_ev n) (ev_bind0 rfl (ev_pos (by simp; omega) (ev_bind0 rfl ?_)))))
  have et : Ev (fun k => impl_PutText.f k s) (putNum (s.size : Int) ++ bytesOf s) := by
    unfold impl_PutText.f
    exact Ev.bind (impl_putNum_ev _) (ev_pos (by omega) (ev_some rfl))
  refine Ev.bind et (ev_pos (by simp at hwl ⊢; omega) (ev_bind0 rfl (Ev.bind (spec_putNum_ev n) ?_)))
  by_cases hz : 0 < (putNum n).length
  · refine ev_pos (by omega) (Ev.bind (impl_getNum_ev (wire n s) hb (by omega) 1) ?_)
    rw [hnum hz]
    refine ev_pos rfl (ev_pos rfl (ev_pos ?_ ?_))
    · simp only
      rw [w64 (by omega) (by omega)]
    · exact back_j0 l hl hx' n hn s hs
  · refine ev_neg (by omega) (ev_pos (by omega) ?_)
    have := back_j0 l hl hx' n hn s hs
    have hz' : (putNum n).length = 0 := by omega
    rw [hz'] at this
    exact this

end Go.Proofs.Ytpmgajcjanihhaa.Pure
