/- What comes in, read as the print's lists and structures: whole numbers, slices of what opens, structs field by field. -/
import Derived.Test.YtdciagkholijlaaWMore
import Derived.Deep.Slices
import Derived.Carry
namespace Go.Proofs.Ytdciagkholijlaa.Open
open Go Go.RowKit Go.Deep Go.Proofs.YtdciagkholijlaaW.PrintWords

def Opens (P : Program) (t : TypeId) {α : Type} (d : Kd α) (good : α → Prop) : Prop :=
  P.cellsOf t = d.sz ∧ ∀ {H : Type} (enc : TypeId × Value → H) (w : World) (base : Nat) (spare : Nat → Bool) (held : Bool) (fuel : Nat) (cs : List Value) (x : DataW H × List MemPlace),
    DataW.trod enc P w base spare held fuel t cs = some x → ∃ a : α, d.K w a cs ∧ good a

def goodInt (x : Int) : Prop := -9223372036854775808 ≤ x ∧ x ≤ 9223372036854775807

theorem opens_int {P : Program} {t : TypeId} (ht : P.underlying t = some (.int .i64)) (hc : P.cellsOf t = 1) : Opens P t (Kd.int .i64) goodInt := by
  refine ⟨hc, ?_⟩
  intro H enc w base spare held fuel cs x h
  cases fuel with
  | zero => simp [DataW.trod] at h
  | succ fuel =>
    unfold DataW.trod at h
    rw [ht] at h
    split at h <;> simp_all
    rename_i k k' n _
    obtain ⟨⟨_, hw⟩, _⟩ := h
    subst k
    refine ⟨n, rfl, ?_⟩
    simp [Lit.wf, IntKind.min, IntKind.max, IntKind.signed, IntKind.bits] at hw
    unfold goodInt
    omega
theorem add_add {a : Addr} (i j : Nat) : (a.add i).add j = a.add (i + j) := by
  by_cases hi : i = 0
  · subst hi
    rw [Nat.zero_add]
    rfl
  · by_cases hj : j = 0
    · subst hj
      rfl
    · unfold Addr.add
      rw [if_neg hi, if_neg hj, if_neg (by omega)]
      simp [Nat.add_assoc]

def goodList {α : Type} (good : α → Prop) (l : List α) : Prop := l.length ≤ 9223372036854775807 ∧ ∀ x ∈ l, good x

theorem opens_slice {P : Program} {t e : TypeId} {α : Type} {d : Kd α} {good : α → Prop} (ht : P.underlying t = some (.slice e)) (hc : P.cellsOf t = 1) (hd : Opens P e d good) :
    Opens P t (Kd.slice e d) (goodList good) := by
  refine ⟨hc, ?_⟩
  intro H enc w base spare held fuel cs x h
  rcases open_slice ht h with ⟨rfl, _⟩ | ⟨a, len, cap, m, n, D, Pl, rfl, hb, hl, hm, hmm, _, hx⟩
  · exact ⟨[], ⟨none, 0, rfl, by simp, ⟨rfl, by simp, fun h => absurd h (by simp)⟩⟩, by simp, fun x h => by cases h⟩
  have hlm : len ≤ m := by
    rw [hmm]
    split
    · exact hl
    · exact Nat.le_refl _
  have each : ∀ i : Fin len, ∃ p : α, good p ∧ ∃ c, c.length = d.sz ∧ d.K w p c ∧ ∀ j u, c[j]? = some u → w.cell? (a.add (i.val * d.sz + j)) = some u := by
    intro i
    obtain ⟨cs', h1, h2⟩ := hx i.val (Nat.lt_of_lt_of_le i.isLt hlm)
    obtain ⟨p, hk, hg⟩ := hd.2 enc w base spare held n cs' _ h2
    refine ⟨p, hg, cs', d.K_len hk, hk, ?_⟩
    intro j u hu
    obtain ⟨_, hlen, hcell⟩ := World.cells?_some h1
    have hj : j < cs'.length := (List.getElem?_eq_some_iff.1 hu).1
    have := hcell j (by omega)
    rw [add_add, hd.1] at this
    rw [← hu]
    exact this.symm ▸ rfl
  let f : Fin len → α := fun i => Classical.choose (each i)
  have hf : ∀ i, good (f i) ∧ ∃ c, c.length = d.sz ∧ d.K w (f i) c ∧ ∀ j u, c[j]? = some u → w.cell? (a.add (i.val * d.sz + j)) = some u := fun i => Classical.choose_spec (each i)
  have hcap : len ≤ 9223372036854775807 := by
    unfold maxLen at hm
    omega
  refine ⟨List.ofFn f, ⟨some a, cap, by rw [List.length_ofFn], by rw [List.length_ofFn]; exact hl, ?_⟩, ?_, ?_⟩
  · refine ⟨rfl, by rw [List.length_ofFn]; exact hcap, fun _ => ⟨a, rfl, fun j p hj => ?_⟩⟩
    have hjl : j < len := by
      have := (List.getElem?_eq_some_iff.1 hj).1
      rwa [List.length_ofFn] at this
    rw [List.getElem?_ofFn, dif_pos hjl] at hj
    injection hj with hj
    subst hj
    exact (hf ⟨j, hjl⟩).2
  · rw [List.length_ofFn]
    exact hcap
  · intro x hx
    obtain ⟨i, rfl⟩ := (List.mem_ofFn).1 hx
    exact (hf i).1

inductive OpensF (P : Program) : List Field → Nat → {α : Type} → Kd α → (α → Prop) → Prop
  | one {f : Field} {off : Nat} {α : Type} {d : Kd α} {good : α → Prop} (ho : f.offset = off) (h : Opens P f.type d good) : OpensF P [f] off d good
  | more {f : Field} {fs : List Field} {off : Nat} {α β : Type} {d : Kd α} {d' : Kd β} {good : α → Prop} {good' : β → Prop} (ho : f.offset = off) (h : Opens P f.type d good) (hs : OpensF P fs (off + d.sz) d' good') :
      OpensF P (f :: fs) off (Kd.pair d d') (fun x => good x.1 ∧ good' x.2)

theorem opensF_at {P : Program} {H : Type} (enc : TypeId × Value → H) (w : World) (base : Nat) (spare : Nat → Bool) (held : Bool) (fuel : Nat) (cs : List Value) {fs : List Field} {off : Nat} {α : Type} {d : Kd α} {good : α → Prop} (hF : OpensF P fs off d good) :
    ∀ xs : List (DataW H × List MemPlace), (fs.mapM fun f => DataW.trod enc P w base spare held fuel f.type ((cs.drop f.offset).take (P.cellsOf f.type))) = some xs → ∃ a : α, d.K w a ((cs.drop off).take d.sz) ∧ good a := by
  induction hF with
  | one ho h =>
    intro xs hx
    rw [List.mapM_cons] at hx
    obtain ⟨y, hy, _⟩ := Option.bind_eq_some_iff.1 hx
    rw [ho, h.1] at hy
    exact h.2 enc w base spare held fuel _ y hy
  | @more f fs off α β d d' good good' ho h hs ih =>
    intro xs hx
    rw [List.mapM_cons] at hx
    obtain ⟨y, hy, hx⟩ := Option.bind_eq_some_iff.1 hx
    obtain ⟨ys, hys, _⟩ := Option.bind_eq_some_iff.1 hx
    rw [ho, h.1] at hy
    obtain ⟨a, ha, hga⟩ := h.2 enc w base spare held fuel _ y hy
    obtain ⟨b, hb, hgb⟩ := ih ys hys
    refine ⟨(a, b), ⟨_, _, ?_, ha, hb⟩, hga, hgb⟩
    show (cs.drop off).take (d.sz + d'.sz) = _
    rw [List.take_add, List.drop_drop]

theorem opens_struct {P : Program} {t : TypeId} {fs : Array Field} {α β : Type} {d : Kd α} {good : α → Prop} (f : β → α) (g : α → β) (hfg : ∀ a, f (g a) = a) (ht : P.underlying t = some (.struct fs)) (hc : P.cellsOf t = d.sz) (hF : OpensF P fs.toList 0 d good) :
    Opens P t (Kd.iso d f) (fun x => good (f x)) := by
  refine ⟨hc, ?_⟩
  intro H enc w base spare held fuel cs x h
  cases fuel with
  | zero => simp [DataW.trod] at h
  | succ fuel =>
    unfold DataW.trod at h
    rw [ht] at h
    have h2 : (if cs.length = P.cellsOf t then (fs.toList.mapM fun f => DataW.trod enc P w base spare held fuel f.type ((cs.drop f.offset).take (P.cellsOf f.type))).map fun xs => (DataW.agg (xs.map (·.1)), xs.flatMap (·.2)) else none) = some x := by
      split at h <;> simp_all
    clear h
    split at h2
    · rename_i hlen
      obtain ⟨xs, hx, _⟩ := Option.map_eq_some_iff.1 h2
      obtain ⟨a, ha, hga⟩ := opensF_at enc w base spare held fuel cs hF xs hx
      rw [List.drop_zero, List.take_of_length_le (by omega)] at ha
      refine ⟨g a, ?_, ?_⟩
      · show d.K w (f (g a)) cs
        rw [hfg]
        exact ha
      · show good (f (g a))
        rw [hfg]
        exact hga
    · cases h2
theorem opens_struct0 {P : Program} {t : TypeId} {fs : Array Field} {α : Type} {d : Kd α} {good : α → Prop} (ht : P.underlying t = some (.struct fs)) (hc : P.cellsOf t = d.sz) (hF : OpensF P fs.toList 0 d good) : Opens P t d good :=
  opens_struct (fun x : α => x) (fun x : α => x) (fun _ => rfl) ht hc hF
end Go.Proofs.Ytdciagkholijlaa.Open
