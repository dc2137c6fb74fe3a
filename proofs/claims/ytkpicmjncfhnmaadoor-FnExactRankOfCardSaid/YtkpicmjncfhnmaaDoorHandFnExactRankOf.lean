/- RankOf of the program is RankOf of the reference, for all arguments; the law is walked by hand, the library's table of its own text read as the row lists it. -/
import Derived.Test.YtkpicmjncfhnmaaDoorPFnExactRankOfx1
import Derived.Test.YtkpicmjncfhnmaaDoorAid
import Derived.WalkKit
import Derived.Shelf.Spec.TrailingZeros
namespace Go.Proofs.YtkpicmjncfhnmaaDoor.HFnExactRankOf
open Go.RowKit Go.Proofs.YtkpicmjncfhnmaaDoor.PFnExactRankOf Go.Proofs.YtkpicmjncfhnmaaDoorW.PrintWords Go.Proofs.YtkpicmjncfhnmaaDoorW.PrintLast Go.Proofs.YtkpicmjncfhnmaaDoorW.PrintMore Go.Proofs.YtkpicmjncfhnmaaDoor.Aid
set_option linter.unusedVariables false

def clipV (a : Int) : Nat := if a ≤ 0 then 0 else if a ≤ 1000000 then a.toNat else 1000000
theorem clipV_le (a : Int) : clipV a ≤ 1000000 := by
  unfold clipV
  split
  · omega
  · split <;> omega
theorem spec_clip_is (a : Int) : spec_l2Clip.f a 1000000 = some ((clipV a : Nat) : Int) := by
  unfold spec_l2Clip.f spec_l1Min.f spec_l1Max.f clipV
  by_cases h : a < 1000000
  · rw [if_pos h]
    simp only [Option.bind_some]
    by_cases h2 : a ≤ 0
    · rw [if_pos h2]
      by_cases h3 : 0 > a
      · rw [if_pos h3]
        rfl
      · rw [if_neg h3]
        simp only [Option.bind_some, Option.some.injEq]
        omega
    · rw [if_neg (by omega), if_neg h2, if_pos (by omega)]
      simp only [Option.bind_some, Option.some.injEq]
      omega
  · rw [if_neg h]
    simp only [Option.bind_some]
    rw [if_neg (by omega), if_neg (by omega : ¬ a ≤ 0)]
    by_cases h2 : a ≤ 1000000
    · rw [if_pos h2]
      simp only [Option.bind_some, Option.some.injEq]
      omega
    · rw [if_neg h2]
      rfl
def mixN (a : Int) : Nat := (clipV a * 40503 + 12345) % 65536 ^^^ (clipV a * 40503 + 12345) % 65536 / 256
theorem mixN_lt (a : Int) : mixN a < 65536 := by
  unfold mixN
  have h1 : (clipV a * 40503 + 12345) % 65536 < 2 ^ 16 := by omega
  have := Nat.xor_lt_two_pow (n := 16) h1 (show (clipV a * 40503 + 12345) % 65536 / 256 < 2 ^ 16 by omega)
  omega
theorem mix_val (a : Int) : Go.bits .xor .i64 (Int.tmod (wrap64 (wrap64 (((clipV a : Nat) : Int) * 40503) + 12345)) 65536) (wrap64 (Int.tdiv (Int.tmod (wrap64 (wrap64 (((clipV a : Nat) : Int) * 40503) + 12345)) 65536) 256)) = ((mixN a : Nat) : Int) := by
  have hc := clipV_le a
  have e : Int.tmod (wrap64 (wrap64 (((clipV a : Nat) : Int) * 40503) + 12345)) 65536 = (((clipV a * 40503 + 12345) % 65536 : Nat) : Int) := by
    rw [w64 (x := ((clipV a : Nat) : Int) * 40503) (by omega) (by omega), w64 (by omega) (by omega), Int.tmod_eq_emod_of_nonneg (by omega)]
    omega
  rw [e]
  clear e
  have e2 : wrap64 (Int.tdiv (((clipV a * 40503 + 12345) % 65536 : Nat) : Int) 256) = (((clipV a * 40503 + 12345) % 65536 / 256 : Nat) : Int) := by
    rw [Int.tdiv_eq_ediv_of_nonneg (by omega), w64 (by omega) (by omega)]
    omega
  rw [e2]
  clear e2
  exact xor64 _ _ (by omega) (by omega)
theorem spec_mix_is (a : Int) : spec_Mix.f a = some ((mixN a : Nat) : Int) := by
  unfold spec_Mix.f
  rw [spec_clip_is, Option.bind_some, mix_val]
theorem impl_clip_is (a : Int) : impl_limited.f a 0 1000000 = some ((clipV a : Nat) : Int) := by
  unfold impl_limited.f mn mx clipV
  congr 1
  repeat' split
  all_goals omega
theorem impl_mix_is (a : Int) : impl_Mix.f a = some ((mixN a : Nat) : Int) := by
  unfold impl_Mix.f
  rw [impl_clip_is, Option.bind_some, mix_val]
/-- How many zeros a number of Mix ends in, and one more. -/
def rankV (n : Int) : Int := if mixN n = 0 then 17 else ((Lib.ctz 64 (mixN n) : Nat) : Int) + 1
theorem spec_rank_at (m : Nat) : ∀ (j : Nat) (r : Int), 2 ^ j * (2 * m + 1) < 65536 → 0 ≤ r → r + j ≤ 1000 → Ev (fun k => spec_RankOf.l0 k ((2 ^ j * (2 * m + 1) : Nat) : Int) r) (r + (j : Int)) := by
  intro j
  induction j with
  | zero =>
    intro r hx h0 h1
    refine Ev.step (fun _ => rfl) ?_
    simp only [spec_RankOf.l0]
    refine ev_neg ?_ (ev_some (by omega))
    rw [Int.tmod_eq_emod_of_nonneg (by omega)]
    omega
  | succ j ih =>
    intro r hx h0 h1
    have e : 2 ^ (j + 1) * (2 * m + 1) = 2 * (2 ^ j * (2 * m + 1)) := by rw [Nat.pow_succ]; simp [Nat.mul_comm, Nat.mul_left_comm]
    rw [e] at hx ⊢
    have ih' := ih (r + 1) (by omega) (by omega) (by omega)
    generalize 2 ^ j * (2 * m + 1) = y at hx ih'
    refine Ev.step (fun _ => rfl) ?_
    simp only [spec_RankOf.l0]
    refine ev_pos ?_ ?_
    · rw [Int.tmod_eq_emod_of_nonneg (by omega)]
      omega
    · rw [Int.tdiv_eq_ediv_of_nonneg (by omega), w64 (x := ((2 * y : Nat) : Int) / 2) (by omega) (by omega), w64 (x := r + 1) (by omega) (by omega), show ((2 * y : Nat) : Int) / 2 = (y : Int) by omega, show r + ((j + 1 : Nat) : Int) = r + 1 + (j : Int) by omega]
      exact ih'
theorem rank_lt (n : Int) (h : mixN n ≠ 0) : ∃ m, mixN n = 2 ^ Lib.ctz 64 (mixN n) * (2 * m + 1) ∧ Lib.ctz 64 (mixN n) < 64 := by
  have h2 := mixN_lt n
  have := Lib.ctzFrom_spec 64 (mixN n) (by omega) (by omega)
  unfold Lib.ctz
  rw [if_neg h]
  exact this
theorem spec_rank_ev (n : Int) : Ev (fun k => spec_RankOf.f k n) (rankV n) := by
  unfold spec_RankOf.f rankV
  refine ev_bind0 (spec_mix_is n) ?_
  by_cases h : mixN n = 0
  · rw [if_pos h]
    exact ev_pos (by omega) (ev_some rfl)
  · rw [if_neg h]
    refine ev_neg (by omega) ?_
    obtain ⟨m, hm, hk⟩ := rank_lt n h
    have hl := mixN_lt n
    have e := spec_rank_at m (Lib.ctz 64 (mixN n)) 1 (by rw [← hm]; exact hl) (by omega) (by omega)
    rw [← hm] at e
    rw [Int.add_comm]
    exact e
/-- The number of the variable that holds the table. -/
theorem tz64_core (x k idx : Nat) (w : World) (hx0 : ((x : Int) == 0) = false)
    (key : IntKind.u64.wrap (bits BinOp.and IntKind.u64 (x : Int) (IntKind.u64.wrap (-(x : Int))) * 285870213051353865) / 288230376151711744 = (idx : Int))
    (hi : idx < 64) (hk : k < 64) (hcell : w.cell? ⟨1, idx, none⟩ = some (.int .u8 k)) :
    Calls Tryd.prog 119 #[.int .u64 x] w fun e w' => e = .returned (.int .i64 k) ∧ w' = w := by
  go_enter Tryd.func119, Tryd.ntmps119
  go_wp2_with (simp only [key])
  go_ret
  exact ⟨rfl, rfl⟩
theorem tz64_call (x : Nat) (hx : x < 18446744073709551616) (hx0 : x ≠ 0) (w : World) (hT : TabAt 1 Lib.deBruijn64tab w) :
    Calls Tryd.prog 119 #[.int .u64 x] w fun e w' => e = .returned (.int .i64 (Lib.ctz 64 x)) ∧ w' = w := by
  obtain ⟨hlow, hk⟩ := Lib.lowest_bit 64 x hx0 hx
  obtain ⟨hi, htab⟩ := Lib.deBruijn64_at _ hk
  have hcell := hT _ hi
  rw [htab] at hcell
  exact tz64_core x _ _ w (by simp; omega) (tz64_key x _ hx hx0 hlow) hi hk hcell
theorem tz_call (x : Nat) (hx : x < 18446744073709551616) (hx0 : x ≠ 0) (w : World) (hT : TabAt 1 Lib.deBruijn64tab w) :
    Calls Tryd.prog 75 #[.int .u64 x] w fun e w' => e = .returned (.int .i64 (Lib.ctz 64 x)) ∧ w' = w := by
  have c64 := tz64_call x hx hx0 w hT
  have hw : IntKind.u64.wrap (x : Int) = (x : Int) := by rw [IntKind.wrap_u64]; omega
  clear hT hx hx0
  generalize Lib.ctz 64 x = k at c64 ⊢
  go_enter Tryd.func75, Tryd.ntmps75
  go_wp2_with (go_at_call 119; refine c64.mono ?_; rintro e w' ⟨rfl, hw'⟩; rw [hw'])
  go_ret
  exact ⟨rfl, rfl⟩
theorem impl_rank_call (n : Int) (w : World) (hT : TabAt 1 Lib.deBruijn64tab w) :
    Calls Tryd.prog 16 #[.int .i64 n] w fun e w' => e = .returned (.int .i64 (rankV n)) ∧ Below w.heap.size w w' := by
  have hl := mixN_lt n
  have M := Aside0.mk (impl_mix_is n)
  by_cases h : mixN n = 0
  · have hv : rankV n = 17 := by unfold rankV; rw [if_pos h]
    rw [hv]
    rw [h] at M
    clear hT hl hv h
    go_enter Tryd.func16, Tryd.ntmps16
    go_wp2_with (go_at_call 25; refine (impl_Mix.calls n _ _ M.out).mono ?_; rintro e w' ⟨rfl, hb⟩)
    go_ret
    exact ⟨rfl, hb⟩
  · have hv : rankV n = ((Lib.ctz 64 (mixN n) : Nat) : Int) + 1 := by unfold rankV; rw [if_neg h]
    rw [hv]
    have hk : Lib.ctz 64 (mixN n) < 64 := (rank_lt n h).choose_spec.2
    have hc := fun W (hW : Below w.heap.size w W) => tz_call (mixN n) (by omega) h W (fun j hj => pw_cell_below hW (hT j hj))
    have hw : IntKind.u64.wrap ((mixN n : Nat) : Int) = ((mixN n : Nat) : Int) := by rw [IntKind.wrap_u64]; omega
    have h0 : (((mixN n : Nat) : Int) == 0) = false := by simp; omega
    clear hT hl hv h
    generalize Lib.ctz 64 (mixN n) = c at *
    generalize mixN n = x at *
    have HC := Aside0.mk hc
    clear hc
    go_enter Tryd.func16, Tryd.ntmps16
    go_wp2_with fail
    refine (impl_Mix.calls n _ _ M.out).mono ?_
    rintro e w' ⟨rfl, hb⟩
    go_wp2_with fail
    refine (HC.out _ hb).mono ?_
    rintro e w2 ⟨rfl, rfl⟩
    go_wp2
    go_ret
    exact ⟨rfl, hb⟩
theorem law (n : Int) (w : World) (hT : TabAt 1 Lib.deBruijn64tab w) (_ : -9223372036854775808 ≤ n ∧ n ≤ 9223372036854775807) :
    Calls Tryd.prog 3 #[.int .i64 n] w fun e w' => e = .returned (.bool true) ∧ Below w.heap.size w w' := by
  obtain ⟨k, hk⟩ := (spec_rank_ev n).rounds
  have S := Aside0.mk hk
  have T := Aside0.mk hT
  clear hk hT
  go_enter Tryd.func3, Tryd.ntmps3
  go_wp2_with fail
  refine (spec_RankOf.calls k n _ _ S.out).mono ?_
  rintro e w1 ⟨rfl, nd, rfl⟩
  have hc := impl_rank_call n (w.drewN nd) (fun j hj => pw_cell_below (pw_below_drewN (Below.refl _ _) nd) (T.out j hj))
  go_wp2_with fail
  refine hc.mono ?_
  rintro e w2 ⟨rfl, hb⟩
  clear hc
  have B := Aside0.mk (below_step (pw_below_drewN (Below.refl w.heap.size w) nd) hb)
  clear hb
  go_wp2
  go_ret
  exact ⟨rfl, B.out⟩
end Go.Proofs.YtkpicmjncfhnmaaDoor.HFnExactRankOf
