/- BucketOf of the program is BucketOf of the reference, for all arguments. -/
import Derived.Test.YtmboppgpcppdjaaPFnExactBucketOfx1
import Derived.Test.YtmboppgpcppdjaaAid
namespace Go.Proofs.Ytmboppgpcppdjaa.Pure
open Go Go.RowKit Go.Proofs.Ytmboppgpcppdjaa.PFnExactBucketOf Go.Proofs.YtmboppgpcppdjaaW.PrintWords Go.Proofs.YtmboppgpcppdjaaW.PrintLast Go.Proofs.YtmboppgpcppdjaaW.PrintMore Go.Proofs.Ytmboppgpcppdjaa.Aid

/-- How many binary digits a number has (as many rounds as there can be). -/
def bl : Nat → Nat → Nat
  | 0, _ => 0
  | d + 1, x => if x = 0 then 0 else bl d (x / 2) + 1
theorem bl_le (d x : Nat) : bl d x ≤ d := by
  induction d generalizing x with
  | zero => exact Nat.le_refl _
  | succ d ih =>
    unfold bl
    split
    · omega
    · have := ih (x / 2)
      omega
theorem bl_more (d e : Nat) : ∀ x, x < 2 ^ d → bl (d + e) x = bl d x := by
  induction d with
  | zero =>
    intro x hx
    obtain rfl : x = 0 := by omega
    cases e <;> simp [bl]
  | succ d ih =>
    intro x hx
    rw [show d + 1 + e = (d + e) + 1 by omega]
    unfold bl
    rw [Nat.pow_succ] at hx
    rw [ih (x / 2) (by omega)]
theorem bl_shift (d j : Nat) : ∀ x, 2 ^ j ≤ x → bl (d + j) x = bl d (x / 2 ^ j) + j := by
  induction j with
  | zero =>
    intro x _
    simp
  | succ j ih =>
    intro x hx
    rw [Nat.pow_succ] at hx
    have hp : 0 < 2 ^ j := Nat.two_pow_pos j
    rw [show d + (j + 1) = (d + j) + 1 by omega]
    conv => lhs; unfold bl
    rw [if_neg (by omega), ih (x / 2) (by omega), Nat.div_div_eq_div_mul, Nat.mul_comm 2, ← Nat.pow_succ, Nat.succ_eq_add_one]
    omega
theorem tab_is : ∀ t : Fin 256, bt (⟨#[0, 1, 2, 2, 3, 3, 3, 3, 4, 4, 4, 4, 4, 4, 4, 4, 5, 5, 5, 5, 5, 5, 5, 5, 5, 5, 5, 5, 5, 5, 5, 5, 6, 6, 6, 6, 6, 6, 6, 6, 6, 6, 6, 6, 6, 6, 6, 6, 6, 6, 6, 6, 6, 6, 6, 6, 6, 6, 6, 6, 6, 6, 6, 6, 7, 7, 7, 7, 7, 7, 7, 7, 7, 7, 7, 7, 7, 7, 7, 7, 7, 7, 7, 7, 7, 7, 7, 7, 7, 7, 7, 7, 7, 7, 7, 7, 7, 7, 7, 7, 7, 7, 7, 7, 7, 7, 7, 7, 7, 7, 7, 7, 7, 7, 7, 7, 7, 7, 7, 7, 7, 7, 7, 7, 7, 7, 7, 7, 8, 8, 8, 8, 8, 8, 8, 8, 8, 8, 8, 8, 8, 8, 8, 8, 8, 8, 8, 8, 8, 8, 8, 8, 8, 8, 8, 8, 8, 8, 8, 8, 8, 8, 8, 8, 8, 8, 8, 8, 8, 8, 8, 8, 8, 8, 8, 8, 8, 8, 8, 8, 8, 8, 8, 8, 8, 8, 8, 8, 8, 8, 8, 8, 8, 8, 8, 8, 8, 8, 8, 8, 8, 8, 8, 8, 8, 8, 8, 8, 8, 8, 8, 8, 8, 8, 8, 8, 8, 8, 8, 8, 8, 8, 8, 8, 8, 8, 8, 8, 8, 8, 8, 8, 8, 8, 8, 8, 8, 8, 8, 8, 8, 8, 8, 8, 8, 8, 8, 8, 8, 8, 8, 8, 8, 8, 8, 8]⟩ : ByteArray) ((t.val : Nat) : Int) = ((bl 8 t.val : Nat) : Int) := by decide +kernel
theorem tab_at (t : Nat) (h : t < 256) : bt (⟨#[0, 1, 2, 2, 3, 3, 3, 3, 4, 4, 4, 4, 4, 4, 4, 4, 5, 5, 5, 5, 5, 5, 5, 5, 5, 5, 5, 5, 5, 5, 5, 5, 6, 6, 6, 6, 6, 6, 6, 6, 6, 6, 6, 6, 6, 6, 6, 6, 6, 6, 6, 6, 6, 6, 6, 6, 6, 6, 6, 6, 6, 6, 6, 6, 7, 7, 7, 7, 7, 7, 7, 7, 7, 7, 7, 7, 7, 7, 7, 7, 7, 7, 7, 7, 7, 7, 7, 7, 7, 7, 7, 7, 7, 7, 7, 7, 7, 7, 7, 7, 7, 7, 7, 7, 7, 7, 7, 7, 7, 7, 7, 7, 7, 7, 7, 7, 7, 7, 7, 7, 7, 7, 7, 7, 7, 7, 7, 7, 8, 8, 8, 8, 8, 8, 8, 8, 8, 8, 8, 8, 8, 8, 8, 8, 8, 8, 8, 8, 8, 8, 8, 8, 8, 8, 8, 8, 8, 8, 8, 8, 8, 8, 8, 8, 8, 8, 8, 8, 8, 8, 8, 8, 8, 8, 8, 8, 8, 8, 8, 8, 8, 8, 8, 8, 8, 8, 8, 8, 8, 8, 8, 8, 8, 8, 8, 8, 8, 8, 8, 8, 8, 8, 8, 8, 8, 8, 8, 8, 8, 8, 8, 8, 8, 8, 8, 8, 8, 8, 8, 8, 8, 8, 8, 8, 8, 8, 8, 8, 8, 8, 8, 8, 8, 8, 8, 8, 8, 8, 8, 8, 8, 8, 8, 8, 8, 8, 8, 8, 8, 8, 8, 8, 8, 8, 8, 8]⟩ : ByteArray) (t : Int) = ((bl 8 t : Nat) : Int) := tab_is ⟨t, h⟩
set_option maxRecDepth 100000 in
theorem len_ev (x : Nat) (hx : x ≤ 1000000) : Ev (fun k => bits_Len.f k (x : Int)) ((bl 20 x : Nat) : Int) := by
  unfold bits_Len.f
  refine Ev.bind (a := ((bl 20 x : Nat) : Int)) ?_ (ev_some rfl)
  unfold bits_Len64.f
  refine ev_neg (by omega) (Ev.step (fun _ => rfl) ?_)
  unfold bits_Len64.j0
  by_cases h1 : 65536 ≤ x
  · refine ev_pos (by omega) (ev_neg (by omega) ?_)
    have e : ((x : Int) / 65536) % 256 = ((x / 65536 : Nat) : Int) := by omega
    rw [e, tab_at _ (by omega)]
    refine ev_pos (by omega) (ev_pos (by omega) (ev_some ?_))
    have hb := bl_le 8 (x / 65536)
    have h4 : bl 8 (x / 65536) = bl 4 (x / 65536) := bl_more 4 4 _ (by omega)
    have h20 : bl 20 x = bl 4 (x / 65536) + 16 := bl_shift 4 16 x (by omega)
    rw [h20, ← h4]
    generalize bl 8 (x / 65536) = q at hb
    unfold wrap64
    omega
  · refine ev_neg (by omega) ?_
    by_cases h2 : 256 ≤ x
    · refine ev_pos (by omega) ?_
      have e : ((x : Int) / 256) % 256 = ((x / 256 : Nat) : Int) := by omega
      rw [e, tab_at _ (by omega)]
      refine ev_pos (by omega) (ev_pos (by omega) (ev_some ?_))
      have hb := bl_le 8 (x / 256)
      have h4 : bl 12 (x / 256) = bl 8 (x / 256) := bl_more 8 4 _ (by omega)
      have h20 : bl 20 x = bl 12 (x / 256) + 8 := bl_shift 12 8 x (by omega)
      rw [h20, h4]
      generalize bl 8 (x / 256) = q at hb
      unfold wrap64
      omega
    · refine ev_neg (by omega) ?_
      have e : (x : Int) % 256 = ((x : Nat) : Int) := by omega
      rw [e, tab_at _ (by omega)]
      refine ev_pos (by omega) (ev_pos (by omega) (ev_some ?_))
      have hb := bl_le 8 x
      have h20 : bl 20 x = bl 8 x := bl_more 8 12 _ (by omega)
      rw [h20]
      generalize bl 8 x = q at hb
      unfold wrap64
      omega
def clipV (a : Int) : Nat := if a ≤ 0 then 0 else if a ≤ 1000000 then a.toNat else 1000000
def bucketOf (a : Int) : Int := (((bl 20 (clipV a) + 2) / 3 : Nat) : Int)
theorem clipV_le (a : Int) : clipV a ≤ 1000000 := by
  unfold clipV
  split
  · omega
  · split <;> omega
theorem third (q : Nat) (h : q ≤ 20) : wrap64 (Int.tdiv (wrap64 ((q : Int) + 2)) 3) = (((q + 2) / 3 : Nat) : Int) := by
  rw [w64 (x := (q : Int) + 2) (by omega) (by omega), Int.tdiv_eq_ediv_of_nonneg (by omega), w64 (by omega) (by omega)]
  omega
theorem impl_bucketOf_ev (a : Int) : Ev (fun k => impl_BucketOf.f k a) (bucketOf a) := by
  unfold impl_BucketOf.f bucketOf clipV
  by_cases h : a ≤ 0
  · rw [if_pos h]
    exact ev_pos h (ev_some rfl)
  · rw [if_neg h]
    refine ev_neg h ?_
    have e : IntKind.u64.wrap (mn a 1000000) = (((if a ≤ 1000000 then a.toNat else 1000000 : Nat)) : Int) := by
      unfold mn
      simp only [IntKind.wrap, IntKind.bits, IntKind.signed, Bool.false_and, Bool.false_eq_true, if_false]
      split <;> split <;> omega
    rw [e]
    have hc : (if a ≤ 1000000 then a.toNat else 1000000 : Nat) ≤ 1000000 := by split <;> omega
    exact Ev.bind (len_ev _ hc) (ev_some (third _ (bl_le 20 _)))
theorem spec_clip_is (a : Int) : spec_l2Clip.f a 1000000 = some ((clipV a : Nat) : Int) := by
  unfold spec_l2Clip.f spec_l1Min.f spec_l1Max.f clipV
  by_cases h : a < 1000000
  · rw [if_pos h]
    simp only [Option.bind_some]
    by_cases h2 : a ≤ 0
    · rw [if_pos h2]
      by_cases h3 : 0 > a
      · rw [if_pos h3]
        rfl
      · rw [if_neg h3]
        simp only [Option.bind_some, Option.some.injEq]
        omega
    · rw [if_neg (by omega), if_neg h2, if_pos (by omega)]
      simp only [Option.bind_some, Option.some.injEq]
      omega
  · rw [if_neg h]
    simp only [Option.bind_some]
    rw [if_neg (by omega), if_neg (by omega : ¬ a ≤ 0)]
    by_cases h2 : a ≤ 1000000
    · rw [if_pos h2]
      simp only [Option.bind_some, Option.some.injEq]
      omega
    · rw [if_neg h2]
      rfl
theorem spec_bucket_at (d : Nat) : ∀ (x n : Nat), x < 2 ^ d → n + d ≤ 20 → Ev (fun k => spec_BucketOf.l0 k (x : Int) (n : Int)) (((n + bl d x + 2) / 3 : Nat) : Int) := by
  induction d with
  | zero =>
    intro x n hx hn
    obtain rfl : x = 0 := by omega
    refine Ev.step (fun _ => rfl) ?_
    simp only [spec_BucketOf.l0]
    exact ev_neg (by omega) (ev_some (third n (by omega)))
  | succ d ih =>
    intro x n hx hn
    refine Ev.step (fun _ => rfl) ?_
    simp only [spec_BucketOf.l0]
    unfold bl
    by_cases h0 : x = 0
    · rw [if_pos h0]
      exact ev_neg (by omega) (ev_some (third n (by omega)))
    · rw [if_neg h0]
      refine ev_pos (by omega) ?_
      have e : wrap64 (Int.tdiv (x : Int) 2) = ((x / 2 : Nat) : Int) := by
        have : x < 2 ^ 20 := Nat.lt_of_lt_of_le hx (Nat.pow_le_pow_right (by omega) (by omega))
        rw [Int.tdiv_eq_ediv_of_nonneg (by omega), w64 (by omega) (by omega)]
        omega
      rw [e, wsucc (by omega)]
      rw [Nat.pow_succ] at hx
      have := ih (x / 2) (n + 1) (by omega) (by omega)
      rw [show n + (bl d (x / 2) + 1) + 2 = n + 1 + bl d (x / 2) + 2 by omega]
      exact this
theorem spec_bucketOf_ev (a : Int) : Ev (fun k => spec_BucketOf.f k a) (bucketOf a) := by
  unfold spec_BucketOf.f bucketOf
  refine ev_bind0 (spec_clip_is a) ?_
  have := clipV_le a
  have h := spec_bucket_at 20 (clipV a) 0 (by omega) (by omega)
  rw [Nat.zero_add] at h
  exact h
theorem FnExactBucketOf : laws_FnExactBucketOf.Pure := by
  intro a _
  refine (?_ : Ev (fun k => laws_FnExactBucketOf.f k a) true).rounds
  unfold laws_FnExactBucketOf.f
  exact Ev.bind (spec_bucketOf_ev a) (Ev.bind (impl_bucketOf_ev a) (ev_pos (by trivial) (ev_some rfl)))

end Go.Proofs.Ytmboppgpcppdjaa.Pure
