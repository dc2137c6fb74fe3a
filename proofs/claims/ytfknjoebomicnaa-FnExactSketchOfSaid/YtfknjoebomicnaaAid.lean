/- Small lemmas on answers behind enough rounds and on whole numbers of 64 bits, for all laws of this seat. -/
import Derived.Test.YtfknjoebomicnaaWWords
import Derived.Test.YtfknjoebomicnaaWMore
import Derived.Test.YtfknjoebomicnaaWSized
import Derived.Laws.BitsLemmas
namespace Go.Proofs.Ytfknjoebomicnaa.PrintWords
/-- The name by which a printed row calls it. -/
theorem sized_ints : type_of% @Go.Proofs.YtfknjoebomicnaaW.PrintWords.sized_ints := @Go.Proofs.YtfknjoebomicnaaW.PrintWords.sized_ints
end Go.Proofs.Ytfknjoebomicnaa.PrintWords
namespace Go.Proofs.Ytfknjoebomicnaa.Aid
open Go Go.RowKit Go.Proofs.YtfknjoebomicnaaW.PrintWords

theorem wf64 {x : Int} (h : (Lit.int .i64 x).wf = true) : -9223372036854775808 ≤ x ∧ x ≤ 9223372036854775807 := by
  simp [Lit.wf, IntKind.min, IntKind.max, IntKind.signed, IntKind.bits] at h
  omega
theorem wf64' {x : Int} (h0 : -9223372036854775808 ≤ x) (h1 : x ≤ 9223372036854775807) : (Lit.int .i64 x).wf = true := by
  simp [Lit.wf, IntKind.min, IntKind.max, IntKind.signed, IntKind.bits]
  omega
theorem wfu8 {x : Int} (h : (Lit.int .u8 x).wf = true) : 0 ≤ x ∧ x ≤ 255 := by
  simp [Lit.wf, IntKind.min, IntKind.max, IntKind.signed, IntKind.bits] at h
  omega
theorem w64 {x : Int} (h0 : -9223372036854775808 ≤ x) (h1 : x ≤ 9223372036854775807) : wrap64 x = x := by
  unfold wrap64
  omega
theorem wrap64_range (x : Int) : -9223372036854775808 ≤ wrap64 x ∧ wrap64 x ≤ 9223372036854775807 := by
  unfold wrap64
  omega
section
variable {α β : Type} {g : Option α} {F : α → Nat → Option β} {f f' : Nat → Option β} {a : α} {r : β} {c : Prop} [Decidable c]
theorem ev_some {a' : β} (h : a' = r) : Ev (fun _ => some a') r := by
  rw [h]
  exact Ev.now r
theorem ev_bind0 (h : g = some a) (k : Ev (fun n => F a n) r) : Ev (fun n => g.bind fun x => F x n) r := by
  rw [h]
  exact k
theorem ev_pos (h : c) (k : Ev f r) : Ev (fun n => if c then f n else f' n) r := by
  simp only [if_pos h]
  exact k
theorem ev_neg (h : ¬ c) (k : Ev f' r) : Ev (fun n => if c then f n else f' n) r := by
  simp only [if_neg h]
  exact k
theorem ev_if (h1 : c → Ev f r) (h2 : ¬ c → Ev f' r) : Ev (fun n => if c then f n else f' n) r := by
  by_cases h : c
  · exact ev_pos h (h1 h)
  · exact ev_neg h (h2 h)
theorem ev_eq {r' : β} (k : Ev f r) (h : r = r') : Ev f r' := h ▸ k
end
theorem rd_nat (xs : List Int) (n : Nat) : rd xs (n : Int) = xs.getD n 0 := by
  unfold rd
  rw [Int.toNat_natCast]
theorem rd_get {xs : List Int} {n : Nat} (h : n < xs.length) : rd xs (n : Int) = xs[n] := by
  rw [rd_nat, List.getD_eq_getElem?_getD, List.getElem?_eq_getElem h]
  rfl
section
variable {α : Type}
theorem take_all {xs ys : List α} {i : Nat} (hl : xs.length = ys.length) (hi : ys.length ≤ i) (h : xs.take i = ys.take i) : xs = ys := by
  rwa [List.take_of_length_le (by omega), List.take_of_length_le hi] at h
theorem take_set {xs ys : List α} {i : Nat} (hl : xs.length = ys.length) (hi : i < ys.length) (h : xs.take i = ys.take i) : (xs.set i ys[i]).take (i + 1) = ys.take (i + 1) := by
  rw [List.take_succ_eq_append_getElem (by simp; omega), List.take_succ_eq_append_getElem hi, List.take_set_of_le (Nat.le_refl i), h]
  simp
end
theorem wraps_i64 (n : Int) (h₀ : 0 ≤ n) (h₁ : n < 2 ^ 63) : IntKind.i64.wrap n = n := by
  rw [IntKind.wrap_i64]
  omega
theorem xor64 (a b : Nat) (ha : a < 2 ^ 63) (hb : b < 2 ^ 63) : Go.bits .xor .i64 (a : Int) (b : Int) = ((a ^^^ b : Nat) : Int) := by
  have ha' : a % 2 ^ IntKind.i64.bits = a := Nat.mod_eq_of_lt (by simp only [IntKind.bits]; omega)
  have hb' : b % 2 ^ IntKind.i64.bits = b := Nat.mod_eq_of_lt (by simp only [IntKind.bits]; omega)
  simp only [Go.bits, BitVec.ofInt_natCast, BitVec.toNat_xor, BitVec.toNat_ofNat, ha', hb']
  have := Nat.xor_lt_two_pow ha hb
  exact wraps_i64 _ (Int.natCast_nonneg _) (by omega)
theorem or64 (a b : Nat) (ha : a < 2 ^ 63) (hb : b < 2 ^ 63) : Go.bits .or .i64 (a : Int) (b : Int) = ((a ||| b : Nat) : Int) :=
  (bits_nat .i64 63 (by decide) wraps_i64 a b ha hb).2
theorem and64 (a b : Nat) (ha : a < 2 ^ 63) (hb : b < 2 ^ 63) : Go.bits .and .i64 (a : Int) (b : Int) = ((a &&& b : Nat) : Int) :=
  (bits_nat .i64 63 (by decide) wraps_i64 a b ha hb).1
theorem or_high (n c j : Nat) (hn : n < 2 ^ j) (hc : c * 2 ^ j < 2 ^ 63) (hn2 : n < 2 ^ 63) : Go.bits .or .i64 (n : Int) ((c * 2 ^ j : Nat) : Int) = ((n + c * 2 ^ j : Nat) : Int) := by
  rw [or64 n _ hn2 hc, Nat.or_comm, Nat.mul_comm c, ← Nat.two_pow_add_eq_or_of_lt hn c, Nat.add_comm]
theorem shl64 (x j : Nat) (h : x * 2 ^ j < 2 ^ 63) (hj : j ≤ 64) : shl .i64 (x : Int) (j : Int) = ((x * 2 ^ j : Nat) : Int) := by
  unfold shl
  have hm : min ((j : Int).toNat) IntKind.i64.bits = j := by simp only [IntKind.bits, Int.toNat_natCast]; omega
  rw [hm, wraps_i64]
  · simp
  · exact Int.mul_nonneg (by omega) (by exact_mod_cast Nat.zero_le _)
  · exact_mod_cast h
/-- Byte c put behind i bytes' bits: what each spelling of it comes to. -/
theorem seven (n c i : Nat) (hi : i < 5) (hn : n < 2 ^ (7 * i)) :
    ∃ M : Nat, M = c % 128 * 2 ^ (7 * i) ∧ shl .i64 ((c % 128 : Nat) : Int) ((7 * i : Nat) : Int) = (M : Int) ∧ wrap64 ((n : Int) + (M : Int)) = ((n + M : Nat) : Int) ∧ Go.bits .or .i64 (n : Int) (M : Int) = ((n + M : Nat) : Int) ∧ ∀ j, j = i + 1 → n + M < 2 ^ (7 * j) := by
  have hp : 2 ^ (7 * i) ≤ 268435456 := Nat.le_trans (Nat.pow_le_pow_right (by omega) (show 7 * i ≤ 28 by omega)) (by decide)
  have hs : 2 ^ (7 * (i + 1)) = 128 * 2 ^ (7 * i) := by rw [Nat.mul_add, Nat.pow_add, Nat.mul_comm]
  have hm : c % 128 * 2 ^ (7 * i) ≤ 127 * 2 ^ (7 * i) := Nat.mul_le_mul_right _ (by omega)
  refine ⟨_, rfl, shl64 (c % 128) (7 * i) ?_ (by omega), ?_, or_high n (c % 128) (7 * i) hn ?_ ?_, fun j hj => ?_⟩
  all_goals try subst hj
  all_goals generalize c % 128 * 2 ^ (7 * i) = M at hm ⊢
  all_goals generalize 2 ^ (7 * i) = P at *
  · omega
  · rw [w64 (by omega) (by omega)]
    omega
  · omega
  · omega
  · omega
theorem rd_byte {xs : List Int} (h : ∀ x ∈ xs, 0 ≤ x ∧ x ≤ 255) (i : Int) : 0 ≤ rd xs i ∧ rd xs i ≤ 255 := by
  unfold rd
  rw [List.getD_eq_getElem?_getD]
  cases e : xs[i.toNat]? with
  | none => simp
  | some v => exact h v (List.mem_of_getElem? e)
theorem wsucc {i : Nat} (h : i ≤ 281474976702464) : wrap64 ((i : Int) + 1) = ((i + 1 : Nat) : Int) := by
  rw [w64 (by omega) (by omega)]
  omega
theorem wpred {i : Nat} (h0 : 0 < i) (h : i ≤ 281474976702464) : wrap64 ((i : Int) - 1) = ((i - 1 : Nat) : Int) := by
  rw [w64 (by omega) (by omega)]
  omega
theorem in_is (a b c : Int) : (if a ≥ b then some (decide (a ≤ c)) else some false) = some (decide (b ≤ a ∧ a ≤ c)) := by
  by_cases h : a ≥ b
  · rw [if_pos h]
    exact congrArg some (decide_eq_decide.mpr ⟨fun x => ⟨h, x⟩, fun x => x.2⟩)
  · rw [if_neg h, decide_eq_false (fun x : b ≤ a ∧ a ≤ c => h x.1)]
/-- What a mark writes into bytes, from a number on. -/
def marks8 (a n : Nat) : List Int := (List.range n).map fun j => ((a + j : Nat) : Int) % 256
theorem marks8_length (a n : Nat) : (marks8 a n).length = n := by simp [marks8]
theorem marks8_get (a n i : Nat) (h : i < (marks8 a n).length) : (marks8 a n)[i] = ((a + i : Nat) : Int) % 256 := by simp [marks8]
end Go.Proofs.Ytfknjoebomicnaa.Aid
