/- What comes in, read as the print's lists and structures: whole numbers, slices of what opens, structs field by field. -/
import Derived.Test.YtdciagkholijlaaWMore
import Derived.Deep.Slices
import Derived.Carry
namespace Go.Proofs.Ytdciagkholijlaa.Open
open Go Go.RowKit Go.Deep Go.Proofs.YtdciagkholijlaaW.PrintWords

def Opens (P : Program) (t : TypeId) {α : Type} (d : Kd α) (good : α → Prop) : Prop :=
  P.cellsOf t = d.sz ∧ ∀ {H : Type} (enc : TypeId × Value → H) (w : World) (base : Nat) (spare : Nat → Bool) (held : Bool) (fuel : Nat) (cs : List Value) (x : DataW H × List MemPlace),
    DataW.trod enc P w base spare held fuel t cs = some x → ∃ a : α, d.K w a cs ∧ good a

def goodU8 (x : Int) : Prop := 0 ≤ x ∧ x ≤ 255
theorem opens_u8 {P : Program} {t : TypeId} (ht : P.underlying t = some (.int .u8)) (hc : P.cellsOf t = 1) : Opens P t (Kd.int .u8) goodU8 := by
  refine ⟨hc, ?_⟩
  intro H enc w base spare held fuel cs x h
  cases fuel with
  | zero => simp [DataW.trod] at h
  | succ fuel =>
    unfold DataW.trod at h
    rw [ht] at h
    split at h <;> simp_all
    rename_i k k' n _
    obtain ⟨⟨_, hw⟩, _⟩ := h
    subst k
    refine ⟨n, rfl, ?_⟩
    simp [Lit.wf, IntKind.min, IntKind.max, IntKind.signed, IntKind.bits] at hw
    unfold goodU8
    omega

theorem add_add {a : Addr} (i j : Nat) : (a.add i).add j = a.add (i + j) := by
  by_cases hi : i = 0
  · subst hi
    rw [Nat.zero_add]
    rfl
  · by_cases hj : j = 0
    · subst hj
      rfl
    · unfold Addr.add
      rw [if_neg hi, if_neg hj, if_neg (by omega)]
      simp [Nat.add_assoc]

def goodList {α : Type} (good : α → Prop) (l : List α) : Prop := l.length ≤ 9223372036854775807 ∧ ∀ x ∈ l, good x

theorem opens_slice {P : Program} {t e : TypeId} {α : Type} {d : Kd α} {good : α → Prop} (ht : P.underlying t = some (.slice e)) (hc : P.cellsOf t = 1) (hd : Opens P e d good) :
    Opens P t (Kd.slice e d) (goodList good) := by
  refine ⟨hc, ?_⟩
  intro H enc w base spare held fuel cs x h
  rcases open_slice ht h with ⟨rfl, _⟩ | ⟨a, len, cap, m, n, D, Pl, rfl, hb, hl, hm, hmm, _, hx⟩
  · exact ⟨[], ⟨none, 0, rfl, by simp, ⟨rfl, by simp, fun h => absurd h (by simp)⟩⟩, by simp, fun x h => by cases h⟩
  have hlm : len ≤ m := by
    rw [hmm]
    split
    · exact hl
    · exact Nat.le_refl _
  have each : ∀ i : Fin len, ∃ p : α, good p ∧ ∃ c, c.length = d.sz ∧ d.K w p c ∧ ∀ j u, c[j]? = some u → w.cell? (a.add (i.val * d.sz + j)) = some u := by
    intro i
    obtain ⟨cs', h1, h2⟩ := hx i.val (Nat.lt_of_lt_of_le i.isLt hlm)
    obtain ⟨p, hk, hg⟩ := hd.2 enc w base spare held n cs' _ h2
    refine ⟨p, hg, cs', d.K_len hk, hk, ?_⟩
    intro j u hu
    obtain ⟨_, hlen, hcell⟩ := World.cells?_some h1
    have hj : j < cs'.length := (List.getElem?_eq_some_iff.1 hu).1
    have := hcell j (by omega)
    rw [add_add, hd.1] at this
    rw [← hu]
    exact this.symm ▸ rfl
  let f : Fin len → α := fun i => Classical.choose (each i)
  have hf : ∀ i, good (f i) ∧ ∃ c, c.length = d.sz ∧ d.K w (f i) c ∧ ∀ j u, c[j]? = some u → w.cell? (a.add (i.val * d.sz + j)) = some u := fun i => Classical.choose_spec (each i)
  have hcap : len ≤ 9223372036854775807 := by
    unfold maxLen at hm
    omega
  refine ⟨List.ofFn f, ⟨some a, cap, by rw [List.length_ofFn], by rw [List.length_ofFn]; exact hl, ?_⟩, ?_, ?_⟩
  · refine ⟨rfl, by rw [List.length_ofFn]; exact hcap, fun _ => ⟨a, rfl, fun j p hj => ?_⟩⟩
    have hjl : j < len := by
      have := (List.getElem?_eq_some_iff.1 hj).1
      rwa [List.length_ofFn] at this
    rw [List.getElem?_ofFn, dif_pos hjl] at hj
    injection hj with hj
    subst hj
    exact (hf ⟨j, hjl⟩).2
  · rw [List.length_ofFn]
    exact hcap
  · intro x hx
    obtain ⟨i, rfl⟩ := (List.mem_ofFn).1 hx
    exact (hf i).1

inductive OpensF (P : Program) : List Field → Nat → {α : Type} → Kd α → (α → Prop) → Prop
  | one {f : Field} {off : Nat} {α : Type} {d : Kd α} {good : α → Prop} (ho : f.offset = off) (h : Opens P f.type d good) : OpensF P [f] off d good
  | more {f : Field} {fs : List Field} {off : Nat} {α β : Type} {d : Kd α} {d' : Kd β} {good : α → Prop} {good' : β → Prop} (ho : f.offset = off) (h : Opens P f.type d good) (hs : OpensF P fs (off + d.sz) d' good') :
      OpensF P (f :: fs) off (Kd.pair d d') (fun x => good x.1 ∧ good' x.2)

end Go.Proofs.Ytdciagkholijlaa.Open
