/- Crc of the program is Crc of the reference, for all arguments, and leaves its bytes as they were. -/
import Derived.Test.YtmboppgpcppdjaaPFnExactCrcx1
import Derived.Test.YtmboppgpcppdjaaAid
namespace Go.Proofs.Ytmboppgpcppdjaa.Pure
open Go.RowKit Go.Proofs.Ytmboppgpcppdjaa.PFnExactCrc Go.Proofs.YtmboppgpcppdjaaW.PrintWords Go.Proofs.YtmboppgpcppdjaaW.PrintLast Go.Proofs.Ytmboppgpcppdjaa.Aid

theorem toByteS_at (x0 : List Int) (hn : x0.length ≤ 140737488351232) (d : Nat) : ∀ (i : Nat) (x3 : List Int), i + d = x0.length → x3.length = x0.length → x3.take i = x0.take i →
    Ev (fun k => laws_toByteS.l0 k x0 x3 (i : Int)) x0 := by
  induction d with
  | zero =>
    intro i x3 hi hl ht
    refine Ev.step (fun _ => rfl) ?_
    simp only [laws_toByteS.l0]
    refine ev_neg (by omega) (ev_some (take_all hl (by omega) ht))
  | succ d ih =>
    intro i x3 hi hl ht
    refine Ev.step (fun _ => rfl) ?_
    simp only [laws_toByteS.l0]
    refine ev_pos (by omega) (ev_pos (by omega) (ev_pos (by omega) ?_))
    rw [w64 (x := (i : Int) + 1) (by omega) (by omega), rd_get (show i < x0.length by omega), Int.toNat_natCast, show (i : Int) + 1 = ((i + 1 : Nat) : Int) by omega]
    exact ih (i + 1) _ (by omega) (by simp [hl]) (take_set hl (by omega) ht)
theorem toByteS_ev (x0 : List Int) (hn : x0.length ≤ 140737488351232) : Ev (fun k => laws_toByteS.f k x0) x0 := by
  unfold laws_toByteS.f
  refine ev_pos (by omega) (ev_pos (by omega) ?_)
  exact toByteS_at x0 hn x0.length 0 _ (by omega) (by simp) (by simp)
theorem eqByteS_at (x0 : List Int) (hn : x0.length ≤ 140737488351232) (d : Nat) : ∀ (i : Nat), i + d = x0.length →
    Ev (fun k => laws_eqByteS.l0 k x0 x0 (i : Int)) true := by
  induction d with
  | zero =>
    intro i hi
    refine Ev.step (fun _ => rfl) ?_
    simp only [laws_eqByteS.l0]
    refine ev_neg (by omega) (ev_some rfl)
  | succ d ih =>
    intro i hi
    refine Ev.step (fun _ => rfl) ?_
    simp only [laws_eqByteS.l0]
    refine ev_pos (by omega) (ev_pos (by omega) (ev_pos (by omega) (ev_pos (by trivial) ?_)))
    rw [w64 (x := (i : Int) + 1) (by omega) (by omega), show (i : Int) + 1 = ((i + 1 : Nat) : Int) by omega]
    exact ih (i + 1) (by omega)
theorem eqByteS_ev (x0 : List Int) (hn : x0.length ≤ 140737488351232) : Ev (fun k => laws_eqByteS.f k x0 x0) true := by
  unfold laws_eqByteS.f
  exact ev_pos rfl (eqByteS_at x0 hn x0.length 0 (by omega))
/-- One bit's step of the check sum, and some of them. -/
def crc1 (x : Nat) : Nat := if x % 2 = 1 then x / 2 ^^^ 3988292384 else x / 2
def crcN : Nat → Nat → Nat
  | 0, x => x
  | d + 1, x => crcN d (crc1 x)
theorem crc1_lt {x : Nat} (h : x < 2 ^ 32) : crc1 x < 2 ^ 32 := by
  unfold crc1
  split
  · exact Nat.xor_lt_two_pow (by omega) (by omega)
  · omega
theorem crcN_lt (d : Nat) : ∀ {x : Nat}, x < 2 ^ 32 → crcN d x < 2 ^ 32 := by
  induction d with
  | zero => exact fun h => h
  | succ d ih => exact fun h => ih (crc1_lt h)
/-- The check sum's state behind bytes. -/
def crcL (x : Nat) (l : List Int) : Nat := l.foldl (fun x b => crcN 8 (x ^^^ b.toNat)) x
theorem crcL_lt (l : List Int) (hb : ∀ b ∈ l, 0 ≤ b ∧ b ≤ 255) : ∀ {x : Nat}, x < 2 ^ 32 → crcL x l < 2 ^ 32 := by
  induction l with
  | nil => exact fun h => h
  | cons b l ih =>
    intro x h
    have := hb b (by simp)
    exact ih (fun c hc => hb c (by simp [hc])) (crcN_lt 8 (Nat.xor_lt_two_pow h (by omega)))
def crc (l : List Int) : Int := ((crcL 4294967295 l ^^^ 4294967295 : Nat) : Int)
theorem crcL_snoc (x : Nat) (l : List Int) (b : Int) : crcL x (l ++ [b]) = crcN 8 (crcL x l ^^^ b.toNat) := by
  unfold crcL
  rw [List.foldl_append]
  rfl
theorem spec_crc_bits (xs : List Int) (j r : Int) (d : Nat) : ∀ (x i : Nat), i + d = 8 → x < 2 ^ 32 → Ev (fun k => spec_Crc.l0 k xs ((crcN d x : Nat) : Int) (wrap64 (j + 1))) r →
    Ev (fun k => spec_Crc.l1 k xs (x : Int) j (i : Int)) r := by
  induction d with
  | zero =>
    intro x i hi hx h
    refine Ev.step (fun _ => rfl) ?_
    simp only [spec_Crc.l1]
    exact ev_neg (by omega) h
  | succ d ih =>
    intro x i hi hx h
    refine Ev.step (fun _ => rfl) ?_
    simp only [spec_Crc.l1]
    have e1 : Int.tmod (x : Int) 2 = ((x % 2 : Nat) : Int) := by rw [Int.tmod_eq_emod_of_nonneg (by omega)]; omega
    have e2 : wrap64 (Int.tdiv (x : Int) 2) = ((x / 2 : Nat) : Int) := by rw [Int.tdiv_eq_ediv_of_nonneg (by omega), w64 (by omega) (by omega)]; omega
    have e3 : wrap64 ((i : Int) + 1) = ((i + 1 : Nat) : Int) := by rw [w64 (by omega) (by omega)]; omega
    have e4 : Go.bits .xor .i64 ((x / 2 : Nat) : Int) 3988292384 = ((x / 2 ^^^ 3988292384 : Nat) : Int) := xor64 (x / 2) 3988292384 (by omega) (by omega)
    rw [e1, e2, e3, e4]
    have hl := crc1_lt hx
    unfold crcN crc1 at h
    unfold crc1 at hl
    refine ev_pos (by omega) (ev_if (fun ho => ?_) (fun ho => ?_))
    · rw [if_pos (by omega)] at h hl
      exact ih _ (i + 1) (by omega) hl h
    · rw [if_neg (by omega)] at h hl
      exact ih _ (i + 1) (by omega) hl h
theorem spec_crc_at (xs : List Int) (hb : ∀ b ∈ xs, 0 ≤ b ∧ b ≤ 255) (hn : xs.length ≤ 140737488351232) (d : Nat) : ∀ i, i + d = xs.length →
    Ev (fun k => spec_Crc.l0 k xs ((crcL 4294967295 (xs.take i) : Nat) : Int) (i : Int)) (crc xs) := by
  induction d with
  | zero =>
    intro i hi
    refine Ev.step (fun _ => rfl) ?_
    simp only [spec_Crc.l0]
    have hl := crcL_lt (xs.take i) (fun b h => hb b (List.mem_of_mem_take h)) (show 4294967295 < 2 ^ 32 by omega)
    refine ev_neg (by omega) (ev_some ?_)
    have := xor64 (crcL 4294967295 (xs.take i)) 4294967295 (by omega) (by omega)
    rw [List.take_of_length_le (by omega)] at this ⊢
    exact this
  | succ d ih =>
    intro i hi
    refine Ev.step (fun _ => rfl) ?_
    simp only [spec_Crc.l0]
    refine ev_pos (by omega) (ev_pos (by omega) ?_)
    have hl := crcL_lt (xs.take i) (fun b h => hb b (List.mem_of_mem_take h)) (show 4294967295 < 2 ^ 32 by omega)
    have hr := hb xs[i] (List.getElem_mem (by omega))
    have e3 : wrap64 ((i : Int) + 1) = ((i + 1 : Nat) : Int) := by rw [w64 (by omega) (by omega)]; omega
    have hih := ih (i + 1) (by omega)
    rw [List.take_succ_eq_append_getElem (show i < xs.length by omega), crcL_snoc] at hih
    rw [rd_get (show i < xs.length by omega)]
    generalize xs[i] = c at hr hih ⊢
    obtain ⟨c, rfl⟩ := Int.eq_ofNat_of_zero_le hr.1
    rw [w64 (x := (c : Int)) (by omega) (by omega), xor64 _ c (by omega) (by omega)]
    refine spec_crc_bits xs (i : Int) _ 8 _ 0 (by omega) (Nat.xor_lt_two_pow hl (by omega)) ?_
    rw [e3]
    exact hih
theorem spec_crc_ev (xs : List Int) (hb : ∀ b ∈ xs, 0 ≤ b ∧ b ≤ 255) (hn : xs.length ≤ 140737488351232) : Ev (fun k => spec_Crc.f k xs) (crc xs) := spec_crc_at xs hb hn xs.length 0 (by omega)
theorem impl_crc_bits (xs : List Int) (n j r : Int) (d : Nat) : ∀ (x i : Nat), i + d = 8 → x < 2 ^ 32 → Ev (fun k => impl_Crc.l0 k ((crcN d x : Nat) : Int) xs n (wrap64 (j + 1))) r →
    Ev (fun k => impl_Crc.l1 k (x : Int) (i : Int) xs n j) r := by
  induction d with
  | zero =>
    intro x i hi hx h
    refine Ev.step (fun _ => rfl) ?_
    simp only [impl_Crc.l1]
    exact ev_neg (by omega) h
  | succ d ih =>
    intro x i hi hx h
    refine Ev.step (fun _ => rfl) ?_
    simp only [impl_Crc.l1]
    have e1 : Go.bits .and .i64 (x : Int) 1 = ((x % 2 : Nat) : Int) := by
      have := and64 x 1 (by omega) (by omega)
      rw [Nat.and_one_is_mod] at this
      exact this
    have e2 : (x : Int) / 2 = ((x / 2 : Nat) : Int) := by omega
    have e3 : wrap64 ((i : Int) + 1) = ((i + 1 : Nat) : Int) := by rw [w64 (by omega) (by omega)]; omega
    have e4 : Go.bits .xor .i64 ((x / 2 : Nat) : Int) 3988292384 = ((x / 2 ^^^ 3988292384 : Nat) : Int) := xor64 (x / 2) 3988292384 (by omega) (by omega)
    rw [e1, e2, e3, e4]
    have hl := crc1_lt hx
    unfold crcN crc1 at h
    unfold crc1 at hl
    refine ev_pos (by omega) (ev_if (fun ho => ?_) (fun ho => ?_))
    · rw [if_pos (by omega)] at h hl
      exact ih _ (i + 1) (by omega) hl h
    · rw [if_neg (by omega)] at h hl
      exact ih _ (i + 1) (by omega) hl h
theorem impl_crc_at (xs : List Int) (hb : ∀ b ∈ xs, 0 ≤ b ∧ b ≤ 255) (hn : xs.length ≤ 140737488351232) (d : Nat) : ∀ i, i + d = xs.length →
    Ev (fun k => impl_Crc.l0 k ((crcL 4294967295 (xs.take i) : Nat) : Int) xs (xs.length : Int) (i : Int)) (crc xs) := by
  induction d with
  | zero =>
    intro i hi
    refine Ev.step (fun _ => rfl) ?_
    simp only [impl_Crc.l0]
    have hl := crcL_lt (xs.take i) (fun b h => hb b (List.mem_of_mem_take h)) (show 4294967295 < 2 ^ 32 by omega)
    refine ev_neg (by omega) (ev_some ?_)
    have := xor64 (crcL 4294967295 (xs.take i)) 4294967295 (by omega) (by omega)
    rw [List.take_of_length_le (by omega)] at this ⊢
    exact this
  | succ d ih =>
    intro i hi
    refine Ev.step (fun _ => rfl) ?_
    simp only [impl_Crc.l0]
    refine ev_pos (by omega) (ev_pos (by omega) (ev_pos (by omega) ?_))
    have hl := crcL_lt (xs.take i) (fun b h => hb b (List.mem_of_mem_take h)) (show 4294967295 < 2 ^ 32 by omega)
    have hr := hb xs[i] (List.getElem_mem (by omega))
    have e3 : wrap64 ((i : Int) + 1) = ((i + 1 : Nat) : Int) := by rw [w64 (by omega) (by omega)]; omega
    have hih := ih (i + 1) (by omega)
    rw [List.take_succ_eq_append_getElem (show i < xs.length by omega), crcL_snoc] at hih
    rw [rd_get (show i < xs.length by omega)]
    generalize xs[i] = c at hr hih ⊢
    obtain ⟨c, rfl⟩ := Int.eq_ofNat_of_zero_le hr.1
    rw [w64 (x := (c : Int)) (by omega) (by omega), xor64 _ c (by omega) (by omega)]
    refine impl_crc_bits xs _ (i : Int) _ 8 _ 0 (by omega) (Nat.xor_lt_two_pow hl (by omega)) ?_
    rw [e3]
    exact hih
theorem impl_crc_ev (xs : List Int) (hb : ∀ b ∈ xs, 0 ≤ b ∧ b ≤ 255) (hn : xs.length ≤ 140737488351232) : Ev (fun k => impl_Crc.f k xs) (crc xs) := impl_crc_at xs hb hn xs.length 0 (by omega)
theorem FnExactCrc : laws_FnExactCrc.Pure := by
  intro xs _ hn hx
  refine (?_ : Ev (fun k => laws_FnExactCrc.f k xs) true).rounds
  have hb : ∀ x ∈ xs, 0 ≤ x ∧ x ≤ 255 := fun x h => wfu8 (hx x h)
  have hl : xs.length ≤ 140737488351232 := by omega
  unfold laws_FnExactCrc.f
  refine ev_if (fun _ => ev_some rfl) (fun _ => ?_)
  refine Ev.bind (toByteS_ev xs hl) (Ev.bind (spec_crc_ev xs hb hl) (Ev.bind (toByteS_ev xs hl) (Ev.bind (impl_crc_ev xs hb hl) (ev_pos rfl ?_))))
  exact Ev.bind (toByteS_ev xs hl) (Ev.bind (eqByteS_ev xs hl) (ev_pos rfl (ev_some rfl)))

end Go.Proofs.Ytmboppgpcppdjaa.Pure
