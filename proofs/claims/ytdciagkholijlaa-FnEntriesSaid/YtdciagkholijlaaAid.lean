/- Small lemmas on answers behind enough rounds and on whole numbers of 64 bits, for all laws of this seat. -/
import Derived.Test.YtdciagkholijlaaWWords
import Derived.Test.YtdciagkholijlaaWMore
import Derived.Test.YtdciagkholijlaaWSized
import Derived.Laws.BitsLemmas
namespace Go.Proofs.Ytdciagkholijlaa.PrintWords
end Go.Proofs.Ytdciagkholijlaa.PrintWords
namespace Go.Proofs.Ytdciagkholijlaa.Aid
open Go Go.RowKit Go.Proofs.YtdciagkholijlaaW.PrintWords

theorem w64 {x : Int} (h0 : -9223372036854775808 ≤ x) (h1 : x ≤ 9223372036854775807) : wrap64 x = x := by
  unfold wrap64
  omega
section
variable {α β : Type} {g : Option α} {F : α → Nat → Option β} {f f' : Nat → Option β} {a : α} {r : β} {c : Prop} [Decidable c]
theorem ev_some {a' : β} (h : a' = r) : Ev (fun _ => some a') r := by
  rw [h]
  exact Ev.now r
theorem ev_bind0 (h : g = some a) (k : Ev (fun n => F a n) r) : Ev (fun n => g.bind fun x => F x n) r := by
  rw [h]
  exact k
theorem ev_pos (h : c) (k : Ev f r) : Ev (fun n => if c then f n else f' n) r := by
  simp only [if_pos h]
  exact k
theorem ev_neg (h : ¬ c) (k : Ev f' r) : Ev (fun n => if c then f n else f' n) r := by
  simp only [if_neg h]
  exact k
theorem ev_if (h1 : c → Ev f r) (h2 : ¬ c → Ev f' r) : Ev (fun n => if c then f n else f' n) r := by
  by_cases h : c
  · exact ev_pos h (h1 h)
  · exact ev_neg h (h2 h)
end
theorem rd_nat (xs : List Int) (n : Nat) : rd xs (n : Int) = xs.getD n 0 := by
  unfold rd
  rw [Int.toNat_natCast]
theorem rd_get {xs : List Int} {n : Nat} (h : n < xs.length) : rd xs (n : Int) = xs[n] := by
  rw [rd_nat,List.getD_eq_getElem?_getD,List.getElem?_eq_getElem h]
  rfl
section
variable {α : Type}
theorem take_set {xs ys : List α} {i : Nat} (hl : xs.length = ys.length) (hi : i < ys.length) (h : xs.take i = ys.take i) : (xs.set i ys[i]).take (i + 1) = ys.take (i + 1) := by
  rw [List.take_succ_eq_append_getElem (by simp;omega),List.take_succ_eq_append_getElem hi,List.take_set_of_le (Nat.le_refl i),h]
  simp
end
theorem wraps_i64 (n : Int) (h₀ : 0 ≤ n) (h₁ : n < 2 ^ 63) : IntKind.i64.wrap n = n := by
  rw [IntKind.wrap_i64]
  omega
theorem xor64 (a b : Nat) (ha : a < 2 ^ 63) (hb : b < 2 ^ 63) : Go.bits .xor .i64 (a : Int) (b : Int) = ((a ^^^ b : Nat) : Int) := by
  have ha' : a % 2 ^ IntKind.i64.bits = a := Nat.mod_eq_of_lt (by simp only [IntKind.bits];omega)
  have hb' : b % 2 ^ IntKind.i64.bits = b := Nat.mod_eq_of_lt (by simp only [IntKind.bits];omega)
  simp only [Go.bits,BitVec.ofInt_natCast,BitVec.toNat_xor,BitVec.toNat_ofNat,ha',hb']
  have := Nat.xor_lt_two_pow ha hb
  exact wraps_i64 _ (Int.natCast_nonneg _) (by omega)
theorem wsucc {i : Nat} (h : i ≤ 281474976702464) : wrap64 ((i : Int) + 1) = ((i + 1 : Nat) : Int) := by
  rw [w64 (by omega) (by omega)]
  omega
theorem wpred {i : Nat} (h0 : 0 < i) (h : i ≤ 281474976702464) : wrap64 ((i : Int) - 1) = ((i - 1 : Nat) : Int) := by
  rw [w64 (by omega) (by omega)]
  omega
theorem in_is (a b c : Int) : (if a ≥ b then some (decide (a ≤ c)) else some false) = some (decide (b ≤ a ∧ a ≤ c)) := by
  by_cases h : a ≥ b
  · rw [if_pos h]
    exact congrArg some (decide_eq_decide.mpr ⟨fun x => ⟨h,x⟩,fun x => x.2⟩)
  · rw [if_neg h,decide_eq_false (fun x : b ≤ a ∧ a ≤ c => h x.1)]
end Go.Proofs.Ytdciagkholijlaa.Aid
