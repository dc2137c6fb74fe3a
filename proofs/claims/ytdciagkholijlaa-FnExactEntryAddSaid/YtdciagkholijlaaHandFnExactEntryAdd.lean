/- EntryAdd of the program is EntryAdd of the reference, for all arguments; it leaves its arguments as they were, and hands back memory of its own; the law is walked by hand. -/
import Derived.Test.YtdciagkholijlaaPFnExactEntryAddx1
import Derived.Test.YtdciagkholijlaaPFnExactEntryAddx10
import Derived.Test.YtdciagkholijlaaPFnExactEntryAddx12
import Derived.Test.YtdciagkholijlaaPFnExactEntryAddx13
import Derived.Test.YtdciagkholijlaaPFnExactEntryAddx14
import Derived.Test.YtdciagkholijlaaPFnExactEntryAddx2
import Derived.Test.YtdciagkholijlaaPFnExactEntryAddx5
import Derived.Test.YtdciagkholijlaaPFnExactEntryAddx7
import Derived.Test.YtdciagkholijlaaPFnExactEntryAddx8
import Derived.Test.YtdciagkholijlaaAid
import Derived.WalkKit
import Derived.Deep.RegionHeld3
import Derived.Deep.DeepCutAuto
import Derived.Test.YtdciagkholijlaaHandAFnExactEntryAdd
namespace Go.Proofs.Ytdciagkholijlaa.HFnExactEntryAdd
open Go.RowKit Go.Proofs.Ytdciagkholijlaa.PFnExactEntryAdd Go.Proofs.YtdciagkholijlaaW.PrintWords Go.Proofs.YtdciagkholijlaaW.PrintLast Go.Proofs.YtdciagkholijlaaW.PrintMore Go.Proofs.Ytdciagkholijlaa.Aid
set_option linter.unusedVariables false
set_option linter.unusedSimpArgs false
theorem Zx0 {p : Prop} (h : p := by have := Z_2.out; have := Z_6.out; have := Z_11.out; have := Z_16.out; have := Z_20.out; have := Z_21.out; have := Z_22.out; have := Z_23.out; have := Z_24.out; have := Z_28.out; have := Z_31.out; have := Z_37.out; have := Z_44.out; have := Z_48.out; have := Z_56.out; have := Z_65.out; have := Z_69.out; have := Z_79.out; have := Z_90.out; have := Z_105.out; have := Z_119.out; have := Z_121.out; have := Z_133.out; have := Z_148.out; have := Z_164.out; have := Z_166.out; have := Z_178.out; have := Z_193.out; have := Z_208.out; have := Z_221.out; have := Z_235.out; omega) : p := h
theorem Zx1 {p : Prop} (h : p := by have := Z_2.out; have := Z_6.out; have := Z_11.out; have := Z_16.out; have := Z_20.out; have := Z_21.out; have := Z_22.out; have := Z_23.out; have := Z_24.out; have := Z_28.out; have := Z_31.out; have := Z_37.out; have := Z_44.out; have := Z_48.out; have := Z_56.out; have := Z_65.out; have := Z_69.out; have := Z_79.out; have := Z_90.out; have := Z_105.out; have := Z_119.out; have := Z_121.out; have := Z_133.out; have := Z_148.out; have := Z_164.out; have := Z_166.out; have := Z_178.out; have := Z_193.out; have := Z_208.out; omega) : p := h
theorem Zx2 {p : Prop} (h : p := by have := Z_2.out; have := Z_6.out; have := Z_11.out; have := Z_16.out; have := Z_20.out; have := Z_21.out; have := Z_22.out; have := Z_23.out; have := Z_24.out; have := Z_28.out; have := Z_31.out; have := Z_37.out; have := Z_44.out; have := Z_48.out; have := Z_56.out; have := Z_65.out; have := Z_69.out; have := Z_79.out; have := Z_90.out; have := Z_105.out; have := Z_119.out; have := Z_121.out; have := Z_133.out; have := Z_148.out; have := Z_164.out; have := Z_166.out; have := Z_178.out; have := Z_193.out; omega) : p := h
theorem within_is (a b c : Int) : impl_within.f a b c = some (decide (b ≤ a ∧ a ≤ c)) := in_is a b c
theorem l1In_is (a b c : Int) : spec_l1In.f a b c = some (decide (b ≤ a ∧ a ≤ c)) := in_is a b c
theorem toIntS_at (x0 : List Int) (hn : x0.length ≤ 1048576) (d : Nat) : ∀ (i : Nat) (x3 : List Int), i + d = x0.length → x3.length = x0.length → x3.take i = x0.take i →
    Ev (fun k => laws_toIntS.l0 k x0 x3 (i : Int)) x0 := by
  induction d with
  | zero =>
    intro i x3 hi hl ht
    refine Ev.step (fun _ => rfl) ?_
    simp only [laws_toIntS.l0]
    refine ev_neg (by omega) (ev_some (take_all hl (by omega) ht))
  | succ d ih =>
    intro i x3 hi hl ht
    refine Ev.step (fun _ => rfl) ?_
    simp only [laws_toIntS.l0]
    refine ev_pos (by omega) (ev_pos (by omega) (ev_pos (by omega) ?_))
    rw [wsucc (by omega), rd_get (show i < x0.length by omega), Int.toNat_natCast]
    exact ih (i + 1) _ (by omega) (by simp [hl]) (take_set hl (by omega) ht)
theorem toIntS_ev (x0 : List Int) (hn : x0.length ≤ 1048576) : Ev (fun k => laws_toIntS.f k x0) x0 := by
  unfold laws_toIntS.f
  refine ev_pos (by omega) (ev_pos (by omega) ?_)
  exact toIntS_at x0 hn x0.length 0 _ (by omega) (by simp) (by simp)
theorem eqIntS_at (x0 : List Int) (hn : x0.length ≤ 1048576) (d : Nat) : ∀ (i : Nat), i + d = x0.length →
    Ev (fun k => laws_eqIntS.l0 k x0 x0 (i : Int)) true := by
  induction d with
  | zero =>
    intro i hi
    refine Ev.step (fun _ => rfl) ?_
    simp only [laws_eqIntS.l0]
    refine ev_neg (by omega) (ev_some rfl)
  | succ d ih =>
    intro i hi
    refine Ev.step (fun _ => rfl) ?_
    simp only [laws_eqIntS.l0]
    refine ev_pos (by omega) (ev_pos (by omega) (ev_pos (by omega) (ev_pos (by trivial) ?_)))
    rw [wsucc (by omega)]
    exact ih (i + 1) (by omega)
theorem eqIntS_ev (x0 : List Int) (hn : x0.length ≤ 1048576) : Ev (fun k => laws_eqIntS.f k x0 x0) true := by
  unfold laws_eqIntS.f
  exact ev_pos (by trivial) (eqIntS_at x0 hn x0.length 0 (by omega))
theorem toIntSS_at (x0 : List (List Int)) (hn : x0.length ≤ 1048576) (hx : ∀ x ∈ x0, x.length ≤ 1048576) (d : Nat) : ∀ (i : Nat) (x3 : List (List Int)), i + d = x0.length → x3.length = x0.length → x3.take i = x0.take i →
    Ev (fun k => laws_toIntSS.l0 k x0 x3 (i : Int)) x0 := by
  induction d with
  | zero =>
    intro i x3 hi hl ht
    refine Ev.step (fun _ => rfl) ?_
    simp only [laws_toIntSS.l0]
    refine ev_neg (by omega) (ev_some (take_all hl (by omega) ht))
  | succ d ih =>
    intro i x3 hi hl ht
    refine Ev.step (fun _ => rfl) ?_
    simp only [laws_toIntSS.l0]
    rw [wsucc (by omega), rdR_get (show i < x0.length by omega), Int.toNat_natCast]
    refine ev_pos (by omega) (ev_pos (by omega) (Ev.bind (toIntS_ev _ (hx _ (List.getElem_mem (by omega)))) (ev_pos (by omega) ?_)))
    exact ih (i + 1) _ (by omega) (by simp [hl]) (take_set hl (by omega) ht)
theorem toIntSS_ev (x0 : List (List Int)) (hn : x0.length ≤ 1048576) (hx : ∀ x ∈ x0, x.length ≤ 1048576) : Ev (fun k => laws_toIntSS.f k x0) x0 := by
  unfold laws_toIntSS.f
  refine ev_pos (by omega) (ev_pos (by omega) ?_)
  exact toIntSS_at x0 hn hx x0.length 0 _ (by omega) (by simp) (by simp)
theorem toSketch_ev (c s mn mx : Int) (h r : List Int) (R : List (List Int)) (hh : h.length ≤ 1048576) (hr : r.length ≤ 1048576) (hR : R.length ≤ 1048576) (hx : ∀ x ∈ R, x.length ≤ 1048576) :
    Ev (fun k => laws_toSketch.f k c s mn mx h r R) (c, s, mn, mx, h, r, R) := by
  unfold laws_toSketch.f
  exact Ev.bind (toIntS_ev h hh) (Ev.bind (toIntS_ev r hr) (Ev.bind (toIntSS_ev R hR hx) (ev_some rfl)))
theorem szIntS_is (l0 : List Int) (a : Int) (h0 : 0 ≤ a) (h1 : a ≤ 1048576) (hl : l0.length ≤ 9223372036854775807) : laws_szIntS.f l0 a = some (if a < l0.length then -1 else a - l0.length) := by
  unfold laws_szIntS.f
  rw [w64 (by omega) (by omega)]
  by_cases h : a < l0.length
  · rw [if_pos (by omega), if_pos h]
  · rw [if_neg (by omega), if_neg h]
theorem szIntSS_at (R : List (List Int)) (hR : R.length ≤ 1048576) (hx : ∀ x ∈ R, x.length ≤ 9223372036854775807) (d : Nat) : ∀ (i : Nat) (a : Int), i + d = R.length → 0 ≤ a → a ≤ 1048576 →
    ∃ v, Ev (fun k => laws_szIntSS.l0 k R a (i : Int)) v ∧ v ≤ a ∧ (0 ≤ v → ∀ x ∈ R.drop i, x.length ≤ 1048576) := by
  induction d with
  | zero =>
    intro i a hi h0 h1
    refine ⟨a, Ev.step (fun _ => rfl) ?_, Int.le_refl _, fun _ x hxx => ?_⟩
    · simp only [laws_szIntSS.l0]
      exact ev_neg (by omega) (ev_some rfl)
    · rw [List.drop_of_length_le (by omega)] at hxx
      cases hxx
  | succ d ih =>
    intro i a hi h0 h1
    have hg : i < R.length := by omega
    have hb := hx R[i] (List.getElem_mem hg)
    by_cases hs : a < (R[i]).length
    · refine ⟨-1, Ev.step (fun _ => rfl) ?_, by omega, fun h => by omega⟩
      simp only [laws_szIntSS.l0]
      rw [rdR_get hg]
      refine ev_pos (by omega) (ev_pos (by omega) (ev_bind0 (szIntS_is _ _ h0 h1 hb) ?_))
      rw [if_pos hs]
      exact ev_pos (by omega) (ev_some rfl)
    · obtain ⟨v, hv, hle, hall⟩ := ih (i + 1) (a - (R[i]).length) (by omega) (by omega) (by omega)
      refine ⟨v, Ev.step (fun _ => rfl) ?_, by omega, fun h x hxx => ?_⟩
      · simp only [laws_szIntSS.l0]
        rw [rdR_get hg, wsucc (by omega)]
        refine ev_pos (by omega) (ev_pos (by omega) (ev_bind0 (szIntS_is _ _ h0 h1 hb) ?_))
        rw [if_neg hs]
        exact ev_neg (by omega) hv
      · rw [List.drop_eq_getElem_cons hg] at hxx
        rcases List.mem_cons.1 hxx with rfl | hxx
        · omega
        · exact hall h x hxx
theorem szSketch_ev (c s mn mx : Int) (h r : List Int) (R : List (List Int)) (a : Int) (h0 : 0 ≤ a) (h1 : a ≤ 1048576) (hh : h.length ≤ 9223372036854775807) (hr : r.length ≤ 9223372036854775807) (hR : R.length ≤ 9223372036854775807) (hx : ∀ x ∈ R, x.length ≤ 9223372036854775807) :
    ∃ v, Ev (fun k => laws_szSketch.f k c s mn mx h r R a) v ∧ v ≤ a ∧ (0 ≤ v → h.length ≤ 1048576 ∧ r.length ≤ 1048576 ∧ R.length ≤ 1048576 ∧ ∀ x ∈ R, x.length ≤ 1048576) := by
  by_cases a1 : a < h.length
  · refine ⟨-1, ?_, by omega, fun h => by omega⟩
    unfold laws_szSketch.f
    refine ev_bind0 (szIntS_is h a h0 h1 hh) ?_
    rw [if_pos a1]
    exact ev_pos (by omega) (ev_some rfl)
  by_cases a2 : a - h.length < r.length
  · refine ⟨-1, ?_, by omega, fun h => by omega⟩
    unfold laws_szSketch.f
    refine ev_bind0 (szIntS_is h a h0 h1 hh) ?_
    rw [if_neg a1]
    refine ev_neg (by omega) (ev_bind0 (szIntS_is r _ (by omega) (by omega) hr) ?_)
    rw [if_pos a2]
    exact ev_pos (by omega) (ev_some rfl)
  by_cases a3 : a - h.length - r.length < R.length
  · refine ⟨-1, ?_, by omega, fun h => by omega⟩
    unfold laws_szSketch.f
    refine ev_bind0 (szIntS_is h a h0 h1 hh) ?_
    rw [if_neg a1]
    refine ev_neg (by omega) (ev_bind0 (szIntS_is r _ (by omega) (by omega) hr) ?_)
    rw [if_neg a2]
    refine ev_neg (by omega) (Ev.bind (a := -1) ?_ (ev_pos (by omega) (ev_some rfl)))
    unfold laws_szIntSS.f
    have e : wrap64 (a - h.length - r.length - R.length) = a - h.length - r.length - R.length := w64 (by omega) (by omega)
    rw [e]
    clear e
    exact ev_pos (by omega) (ev_some rfl)
  obtain ⟨v, hv, hle, hall⟩ := szIntSS_at R (by omega) hx R.length 0 (a - h.length - r.length - R.length) (by omega) (by omega) (by omega)
  rw [List.drop_zero] at hall
  have hin : Ev (fun k => laws_szIntSS.f k R (a - h.length - r.length)) v := by
    unfold laws_szIntSS.f
    have e : wrap64 (a - h.length - r.length - R.length) = a - h.length - r.length - R.length := w64 (by omega) (by omega)
    rw [e]
    clear e
    exact ev_neg (by omega) hv
  have hout : ∀ u, Ev (fun _ => if v < 0 then some (-1) else some v) u → Ev (fun k => laws_szSketch.f k c s mn mx h r R a) u := by
    intro u hu
    unfold laws_szSketch.f
    refine ev_bind0 (szIntS_is h a h0 h1 hh) ?_
    rw [if_neg a1]
    refine ev_neg (by omega) (ev_bind0 (szIntS_is r _ (by omega) (by omega) hr) ?_)
    rw [if_neg a2]
    exact ev_neg (by omega) (Ev.bind hin hu)
  by_cases hneg : v < 0
  · exact ⟨-1, hout _ (ev_pos hneg (ev_some rfl)), by omega, fun h => by omega⟩
  · exact ⟨v, hout _ (ev_neg hneg (ev_some rfl)), by omega, fun h => ⟨by omega, by omega, by omega, hall h⟩⟩
theorem eqIntSS_at (x0 : List (List Int)) (hn : x0.length ≤ 1048576) (hx : ∀ x ∈ x0, x.length ≤ 1048576) (d : Nat) : ∀ (i : Nat), i + d = x0.length →
    Ev (fun k => laws_eqIntSS.l0 k x0 x0 (i : Int)) true := by
  induction d with
  | zero =>
    intro i hi
    refine Ev.step (fun _ => rfl) ?_
    simp only [laws_eqIntSS.l0]
    refine ev_neg (by omega) (ev_some rfl)
  | succ d ih =>
    intro i hi
    refine Ev.step (fun _ => rfl) ?_
    simp only [laws_eqIntSS.l0]
    rw [wsucc (by omega), rdR_get (show i < x0.length by omega)]
    refine ev_pos (by omega) (ev_pos (by omega) (ev_pos (by omega) (Ev.bind (eqIntS_ev _ (hx _ (List.getElem_mem (by omega)))) (ev_pos (by trivial) ?_))))
    exact ih (i + 1) (by omega)
theorem eqIntSS_ev (x0 : List (List Int)) (hn : x0.length ≤ 1048576) (hx : ∀ x ∈ x0, x.length ≤ 1048576) : Ev (fun k => laws_eqIntSS.f k x0 x0) true := by
  unfold laws_eqIntSS.f
  exact ev_pos (by trivial) (eqIntSS_at x0 hn hx x0.length 0 (by omega))
theorem eqSketch_ev (c s mn mx : Int) (h r : List Int) (R : List (List Int)) (hh : h.length ≤ 1048576) (hr : r.length ≤ 1048576) (hR : R.length ≤ 1048576) (hx : ∀ x ∈ R, x.length ≤ 1048576) :
    Ev (fun k => laws_eqSketch.f k c s mn mx h r R c s mn mx h r R) true := by
  unfold laws_eqSketch.f
  refine ev_pos (by trivial) (ev_pos (by trivial) (ev_pos (by trivial) (ev_pos (by trivial) ?_)))
  exact Ev.bind (eqIntS_ev h hh) (ev_pos (by trivial) (Ev.bind (eqIntS_ev r hr) (ev_pos (by trivial) (Ev.bind (eqIntSS_ev R hR hx) (ev_pos (by trivial) (ev_some rfl))))))
theorem lensII_drop (R : List (List Int)) (i : Nat) (h : i < R.length) : lensII (R.drop i) = R[i].length + lensII (R.drop (i + 1)) := by
  rw [List.drop_eq_getElem_cons h]
  rfl
theorem szIntSS_sum (R : List (List Int)) (hR : R.length ≤ 1048576) (hx : ∀ x ∈ R, x.length ≤ 9223372036854775807) (d : Nat) : ∀ (i : Nat) (a : Int), i + d = R.length → 0 ≤ a → a ≤ 1048576 →
    ∃ v, Ev (fun k => laws_szIntSS.l0 k R a (i : Int)) v ∧ (0 ≤ v → (lensII (R.drop i) : Int) + v ≤ a) := by
  induction d with
  | zero =>
    intro i a hi h0 h1
    refine ⟨a, Ev.step (fun _ => rfl) ?_, fun _ => ?_⟩
    · simp only [laws_szIntSS.l0]
      exact ev_neg (by omega) (ev_some rfl)
    · rw [List.drop_of_length_le (by omega)]
      simp [lensII]
  | succ d ih =>
    intro i a hi h0 h1
    have hg : i < R.length := by omega
    have hb := hx R[i] (List.getElem_mem hg)
    by_cases hs : a < (R[i]).length
    · refine ⟨-1, Ev.step (fun _ => rfl) ?_, fun h => by omega⟩
      simp only [laws_szIntSS.l0]
      rw [rdR_get hg]
      refine ev_pos (by omega) (ev_pos (by omega) (ev_bind0 (szIntS_is _ _ h0 h1 hb) ?_))
      rw [if_pos hs]
      exact ev_pos (by omega) (ev_some rfl)
    · obtain ⟨v, hv, hall⟩ := ih (i + 1) (a - (R[i]).length) (by omega) (by omega) (by omega)
      refine ⟨v, Ev.step (fun _ => rfl) ?_, fun h => ?_⟩
      · simp only [laws_szIntSS.l0]
        rw [rdR_get hg, wsucc (by omega)]
        refine ev_pos (by omega) (ev_pos (by omega) (ev_bind0 (szIntS_is _ _ h0 h1 hb) ?_))
        rw [if_neg hs]
        exact ev_neg (by omega) hv
      · have := hall h
        have := lensII_drop R i hg
        omega
theorem ev_one {α : Type} {g : Nat → Option α} {a b : α} (h : Ev g a) (k : Ev g b) : a = b := by
  obtain ⟨K, hK⟩ := h
  obtain ⟨L, hL⟩ := k
  have h1 := hK (K + L) (by omega)
  rw [hL (K + L) (by omega)] at h1
  exact (Option.some.inj h1).symm
theorem szSketch_all (c s mn mx : Int) (h r : List Int) (R : List (List Int)) (a : Int) (h0 : 0 ≤ a) (h1 : a ≤ 1048576) (hh : h.length ≤ 9223372036854775807) (hr : r.length ≤ 9223372036854775807) (hR : R.length ≤ 9223372036854775807) (hx : ∀ x ∈ R, x.length ≤ 9223372036854775807) :
    ∃ v, Ev (fun k => laws_szSketch.f k c s mn mx h r R a) v ∧ v ≤ a ∧ (0 ≤ v → (h.length ≤ 1048576 ∧ r.length ≤ 1048576 ∧ R.length ≤ 1048576 ∧ ∀ x ∈ R, x.length ≤ 1048576) ∧ (h.length : Int) + r.length + lensII R + v ≤ a) := by
  obtain ⟨v, hv, hle, hall⟩ := szSketch_ev c s mn mx h r R a h0 h1 hh hr hR hx
  refine ⟨v, hv, hle, fun hp => ⟨hall hp, ?_⟩⟩
  obtain ⟨b1, b2, b3, b4⟩ := hall hp
  have key : ∃ u, Ev (fun k => laws_szSketch.f k c s mn mx h r R a) u ∧ (0 ≤ u → (h.length : Int) + r.length + lensII R + u ≤ a) := by
    unfold laws_szSketch.f
    by_cases g1 : a < h.length
    · refine ⟨-1, ev_bind0 (szIntS_is h a h0 h1 hh) ?_, fun h => by omega⟩
      rw [if_pos g1]
      exact ev_pos (by omega) (ev_some rfl)
    · by_cases g2 : a - h.length < r.length
      · refine ⟨-1, ev_bind0 (szIntS_is h a h0 h1 hh) ?_, fun h => by omega⟩
        rw [if_neg g1]
        refine ev_neg (by omega) (ev_bind0 (szIntS_is r _ (by omega) (by omega) hr) ?_)
        rw [if_pos g2]
        exact ev_pos (by omega) (ev_some rfl)
      · have hsz : ∃ u, Ev (fun k => laws_szIntSS.f k R (a - h.length - r.length)) u ∧ (0 ≤ u → (lensII R : Int) + u ≤ a - h.length - r.length) := by
          unfold laws_szIntSS.f
          rw [w64 (x := a - h.length - r.length - R.length) (by omega) (by omega)]
          by_cases g3 : a - h.length - r.length - R.length < 0
          · exact ⟨-1, ev_pos g3 (ev_some rfl), fun h => by omega⟩
          · obtain ⟨u, hu, hl⟩ := szIntSS_sum R b3 hx R.length 0 (a - h.length - r.length - R.length) (by omega) (by omega) (by omega)
            exact ⟨u, ev_neg g3 hu, fun hp => by have := hl hp; rw [List.drop_zero] at this; omega⟩
        obtain ⟨u, hu, hl⟩ := hsz
        by_cases g4 : u < 0
        · refine ⟨-1, ev_bind0 (szIntS_is h a h0 h1 hh) ?_, fun h => by omega⟩
          rw [if_neg g1]
          refine ev_neg (by omega) (ev_bind0 (szIntS_is r _ (by omega) (by omega) hr) ?_)
          rw [if_neg g2]
          exact ev_neg (by omega) (Ev.bind hu (ev_pos g4 (ev_some rfl)))
        · refine ⟨u, ev_bind0 (szIntS_is h a h0 h1 hh) ?_, fun hp => by have := hl hp; omega⟩
          rw [if_neg g1]
          refine ev_neg (by omega) (ev_bind0 (szIntS_is r _ (by omega) (by omega) hr) ?_)
          rw [if_neg g2]
          exact ev_neg (by omega) (Ev.bind hu (ev_neg g4 (ev_some rfl)))
  obtain ⟨u, hu, hl⟩ := key
  rw [ev_one hv hu]
  exact hl (by rw [← ev_one hv hu]; exact hp)
theorem rdL_get {xs : List S113} {n : Nat} (h : n < xs.length) : rd_T113 xs (n : Int) = xs[n] := by
  unfold rd_T113
  rw [Int.toNat_natCast, List.getD_eq_getElem?_getD, List.getElem?_eq_getElem h]
  rfl
def cvSpan (x : S113) : S70 := ⟨x.f0, x.f1⟩
theorem toSpanS_at (x0 : List S113) (hn : x0.length ≤ 1048576) (d : Nat) : ∀ (i : Nat) (x3 : List S70), i + d = x0.length → x3.length = x0.length → x3.take i = (x0.map cvSpan).take i →
    Ev (fun k => laws_toSpanS.l0 k x0 x3 (i : Int)) (x0.map cvSpan) := by
  induction d with
  | zero =>
    intro i x3 hi hl ht
    refine Ev.step (fun _ => rfl) ?_
    simp only [laws_toSpanS.l0]
    exact ev_neg (by omega) (ev_some (take_all (by rw [hl, List.length_map]) (by rw [List.length_map]; omega) ht))
  | succ d ih =>
    intro i x3 hi hl ht
    refine Ev.step (fun _ => rfl) ?_
    simp only [laws_toSpanS.l0]
    refine ev_pos (by omega) (ev_pos (by omega) (ev_bind0 rfl (ev_pos (by omega) ?_)))
    rw [wsucc (by omega), rdL_get (show i < x0.length by omega), Int.toNat_natCast]
    have e : (⟨x0[i].f0, x0[i].f1⟩ : S70) = (x0.map cvSpan)[i]'(by rw [List.length_map]; omega) := by rw [List.getElem_map]; rfl
    rw [e]
    exact ih (i + 1) _ (by omega) (by rw [List.length_set]; exact hl) (take_set (ys := x0.map cvSpan) (by rw [hl, List.length_map]) (by rw [List.length_map]; omega) ht)
theorem toSpanS_ev (x0 : List S113) (hn : x0.length ≤ 1048576) : Ev (fun k => laws_toSpanS.f k x0) (x0.map cvSpan) := by
  unfold laws_toSpanS.f
  refine ev_pos (by omega) (ev_pos (by omega) ?_)
  exact toSpanS_at x0 hn x0.length 0 _ (by omega) (by simp) (by simp)
theorem szSpanS_is (l0 : List S113) (a : Int) (h0 : 0 ≤ a) (h1 : a ≤ 1048576) (hl : l0.length ≤ 9223372036854775807) : laws_szSpanS.f l0 a = some (if a < l0.length then -1 else a - l0.length) := by
  unfold laws_szSpanS.f
  rw [w64 (by omega) (by omega)]
  by_cases h : a < l0.length
  · rw [if_pos (by omega), if_pos h]
  · rw [if_neg (by omega), if_neg h]
theorem eqSpanS_at (x0 : List S70) (hn : x0.length ≤ 1048576) (d : Nat) : ∀ (i : Nat), i + d = x0.length →
    Ev (fun k => laws_eqSpanS.l0 k x0 x0 (i : Int)) true := by
  induction d with
  | zero =>
    intro i hi
    refine Ev.step (fun _ => rfl) ?_
    simp only [laws_eqSpanS.l0]
    exact ev_neg (by omega) (ev_some rfl)
  | succ d ih =>
    intro i hi
    refine Ev.step (fun _ => rfl) ?_
    simp only [laws_eqSpanS.l0]
    refine ev_pos (by omega) (ev_pos (by omega) (ev_pos (by omega) (ev_bind0 (a := true) (by unfold laws_eqSpan.f; rw [if_pos rfl, if_pos rfl]) (ev_pos (by trivial) ?_))))
    rw [wsucc (by omega)]
    exact ih (i + 1) (by omega)
theorem eqSpanS_ev (x0 : List S70) (hn : x0.length ≤ 1048576) : Ev (fun k => laws_eqSpanS.f k x0 x0) true := by
  unfold laws_eqSpanS.f
  exact ev_pos (by trivial) (eqSpanS_at x0 hn x0.length 0 (by omega))
theorem toEntry_ev (ke wi : Int) (ids : List S113) (c s mn mx : Int) (h r : List Int) (R : List (List Int)) (hI : ids.length ≤ 1048576) (hh : h.length ≤ 1048576) (hr : r.length ≤ 1048576) (hR : R.length ≤ 1048576) (hx : ∀ x ∈ R, x.length ≤ 1048576) :
    Ev (fun k => laws_toEntry.f k ke wi ids c s mn mx h r R) (ke, wi, ids.map cvSpan, c, s, mn, mx, h, r, R) := by
  unfold laws_toEntry.f
  exact Ev.bind (toSpanS_ev ids hI) (Ev.bind (toSketch_ev c s mn mx h r R hh hr hR hx) (ev_some rfl))
theorem eqEntry_ev (ke wi : Int) (ids : List S70) (c s mn mx : Int) (h r : List Int) (R : List (List Int)) (hI : ids.length ≤ 1048576) (hh : h.length ≤ 1048576) (hr : r.length ≤ 1048576) (hR : R.length ≤ 1048576) (hx : ∀ x ∈ R, x.length ≤ 1048576) :
    Ev (fun k => laws_eqEntry.f k ke wi ids c s mn mx h r R ke wi ids c s mn mx h r R) true := by
  unfold laws_eqEntry.f
  exact ev_pos (by trivial) (ev_pos (by trivial) (Ev.bind (eqSpanS_ev ids hI) (ev_pos (by trivial) (Ev.bind (eqSketch_ev c s mn mx h r R hh hr hR hx) (ev_pos (by trivial) (ev_some rfl))))))
def setOkFrom (s : List S70) : Nat → Nat → Bool
  | 0, _ => true
  | d + 1, i =>
    if 0 ≤ (rd_T70 s (i : Int)).f0 ∧ (rd_T70 s (i : Int)).f0 ≤ 9999 then
      if (rd_T70 s (i : Int)).f0 ≤ (rd_T70 s (i : Int)).f1 ∧ (rd_T70 s (i : Int)).f1 ≤ 9999 then
        if 0 < i then
          if (rd_T70 s (i : Int)).f0 ≤ wrap64 ((rd_T70 s ((i - 1 : Nat) : Int)).f1 + 1) then false else setOkFrom s d (i + 1)
        else setOkFrom s d (i + 1)
      else false
    else false
def setOk (s : List S70) : Bool := setOkFrom s s.length 0
theorem spec_setOk_at (s : List S70) (hn : s.length ≤ 1048576) (d : Nat) : ∀ i : Nat, i + d = s.length → Ev (fun k => spec_SetOk.l0 k s (i : Int)) (setOkFrom s d i) := by
  induction d with
  | zero =>
    intro i hi
    refine Ev.step (fun _ => rfl) ?_
    simp only [spec_SetOk.l0]
    exact ev_neg (by omega) (ev_some rfl)
  | succ d ih =>
    intro i hi
    refine Ev.step (fun _ => rfl) ?_
    simp only [spec_SetOk.l0]
    unfold setOkFrom
    rw [wsucc (by omega)]
    refine ev_pos (by omega) (ev_pos (by omega) (ev_bind0 (l1In_is _ _ _) ?_))
    by_cases h1 : 0 ≤ (rd_T70 s (i : Int)).f0 ∧ (rd_T70 s (i : Int)).f0 ≤ 9999
    · rw [if_pos h1]
      refine ev_pos (decide_eq_true h1) (ev_bind0 (l1In_is _ _ _) ?_)
      by_cases h2 : (rd_T70 s (i : Int)).f0 ≤ (rd_T70 s (i : Int)).f1 ∧ (rd_T70 s (i : Int)).f1 ≤ 9999
      · rw [if_pos h2]
        refine ev_pos (decide_eq_true h2) ?_
        by_cases h3 : 0 < i
        · rw [if_pos h3, wpred h3 (by omega)]
          refine ev_pos (by omega) (ev_pos (by omega) (ev_pos (by omega) ?_))
          by_cases h4 : (rd_T70 s (i : Int)).f0 ≤ wrap64 ((rd_T70 s ((i - 1 : Nat) : Int)).f1 + 1)
          · rw [if_pos h4]
            exact ev_pos h4 (ev_some rfl)
          · rw [if_neg h4]
            exact ev_neg h4 (ih (i + 1) (by omega))
        · rw [if_neg h3]
          exact ev_neg (by omega) (ih (i + 1) (by omega))
      · rw [if_neg h2]
        exact ev_neg (by rw [decide_eq_false h2]; exact Bool.false_ne_true) (ev_some rfl)
    · rw [if_neg h1]
      exact ev_neg (by rw [decide_eq_false h1]; exact Bool.false_ne_true) (ev_some rfl)
theorem spec_setOk_ev (s : List S70) (hn : s.length ≤ 1048576) : Ev (fun k => spec_SetOk.f k s) (setOk s) := spec_setOk_at s hn s.length 0 (by omega)
theorem impl_setOk_at (s : List S70) (hn : s.length ≤ 1048576) (d : Nat) : ∀ i : Nat, i + d = s.length → Ev (fun k => impl_SetOk.l0 k s s (s.length : Int) (i : Int)) (setOkFrom s d i) := by
  induction d with
  | zero =>
    intro i hi
    refine Ev.step (fun _ => rfl) ?_
    simp only [impl_SetOk.l0]
    exact ev_neg (by omega) (ev_some rfl)
  | succ d ih =>
    intro i hi
    refine Ev.step (fun _ => rfl) ?_
    simp only [impl_SetOk.l0]
    unfold setOkFrom
    rw [wsucc (by omega)]
    refine ev_pos (by omega) (ev_pos (by omega) (ev_pos (by omega) (ev_bind0 (within_is _ _ _) ?_)))
    by_cases h1 : 0 ≤ (rd_T70 s (i : Int)).f0 ∧ (rd_T70 s (i : Int)).f0 ≤ 9999
    · rw [if_pos h1]
      refine ev_pos (decide_eq_true h1) (ev_bind0 (within_is _ _ _) ?_)
      by_cases h2 : (rd_T70 s (i : Int)).f0 ≤ (rd_T70 s (i : Int)).f1 ∧ (rd_T70 s (i : Int)).f1 ≤ 9999
      · rw [if_pos h2]
        refine ev_pos (decide_eq_true h2) ?_
        by_cases h3 : 0 < i
        · rw [if_pos h3, wpred h3 (by omega)]
          refine ev_pos (by omega) (ev_pos (by omega) (ev_pos (by omega) ?_))
          by_cases h4 : (rd_T70 s (i : Int)).f0 ≤ wrap64 ((rd_T70 s ((i - 1 : Nat) : Int)).f1 + 1)
          · rw [if_pos h4]
            exact ev_pos h4 (ev_some rfl)
          · rw [if_neg h4]
            exact ev_neg h4 (ih (i + 1) (by omega))
        · rw [if_neg h3]
          exact ev_neg (by omega) (ih (i + 1) (by omega))
      · rw [if_neg h2]
        exact ev_neg (by rw [decide_eq_false h2]; exact Bool.false_ne_true) (ev_some rfl)
    · rw [if_neg h1]
      exact ev_neg (by rw [decide_eq_false h1]; exact Bool.false_ne_true) (ev_some rfl)
theorem impl_setOk_ev (s : List S70) (hn : s.length ≤ 1048576) : Ev (fun k => impl_SetOk.f k s) (setOk s) := impl_setOk_at s hn s.length 0 (by omega)
def apart1 (x : S70) (b : List S70) : Nat → Nat → Bool
  | 0, _ => true
  | d + 1, j =>
    if x.f0 ≤ (rd_T70 b (j : Int)).f1 then
      if (rd_T70 b (j : Int)).f0 ≤ x.f1 then false else apart1 x b d (j + 1)
    else apart1 x b d (j + 1)
def apartFrom (a b : List S70) : Nat → Nat → Bool
  | 0, _ => true
  | d + 1, i => apart1 (rd_T70 a (i : Int)) b b.length 0 && apartFrom a b d (i + 1)
def setApart (a b : List S70) : Bool := setOk a && setOk b && apartFrom a b a.length 0
theorem spec_apart1_at (a b : List S70) (ha : a.length ≤ 1048576) (hb : b.length ≤ 1048576) (i : Nat) (hi : i < a.length) (r : Bool) (d : Nat) : ∀ j : Nat, j + d = b.length →
    (apart1 (rd_T70 a (i : Int)) b d j = true → Ev (fun k => spec_SetApart.l0 k a b ((i + 1 : Nat) : Int)) r) → (apart1 (rd_T70 a (i : Int)) b d j = false → r = false) → Ev (fun k => spec_SetApart.l1 k a b (i : Int) (j : Int)) r := by
  induction d with
  | zero =>
    intro j hj h1 _
    refine Ev.step (fun _ => rfl) ?_
    simp only [spec_SetApart.l1]
    refine ev_neg (by omega) ?_
    rw [wsucc (by omega)]
    exact h1 rfl
  | succ d ih =>
    intro j hj h1 h2
    refine Ev.step (fun _ => rfl) ?_
    simp only [spec_SetApart.l1]
    rw [wsucc (by omega)]
    unfold apart1 at h1 h2
    refine ev_pos (by omega) (ev_pos (by omega) (ev_pos (by omega) (ev_pos (by omega) ?_)))
    by_cases c : (rd_T70 a (i : Int)).f0 ≤ (rd_T70 b (j : Int)).f1
    · rw [if_pos c] at h1 h2
      refine ev_pos c ?_
      by_cases e : (rd_T70 b (j : Int)).f0 ≤ (rd_T70 a (i : Int)).f1
      · rw [if_pos e] at h1 h2
        exact ev_pos e (ev_some (h2 rfl).symm)
      · rw [if_neg e] at h1 h2
        exact ev_neg e (ih (j + 1) (by omega) h1 h2)
    · rw [if_neg c] at h1 h2
      exact ev_neg c (ih (j + 1) (by omega) h1 h2)
theorem spec_apart_at (a b : List S70) (ha : a.length ≤ 1048576) (hb : b.length ≤ 1048576) (d : Nat) : ∀ i : Nat, i + d = a.length → Ev (fun k => spec_SetApart.l0 k a b (i : Int)) (apartFrom a b d i) := by
  induction d with
  | zero =>
    intro i hi
    refine Ev.step (fun _ => rfl) ?_
    simp only [spec_SetApart.l0]
    exact ev_neg (by omega) (ev_some rfl)
  | succ d ih =>
    intro i hi
    refine Ev.step (fun _ => rfl) ?_
    simp only [spec_SetApart.l0]
    refine ev_pos (by omega) ?_
    unfold apartFrom
    refine spec_apart1_at a b ha hb i (by omega) _ b.length 0 (by omega) (fun h => ?_) (fun h => ?_)
    · rw [h, Bool.true_and]
      exact ih (i + 1) (by omega)
    · rw [h, Bool.false_and]
theorem impl_apart1_at (a b : List S70) (ha : a.length ≤ 1048576) (hb : b.length ≤ 1048576) (i : Nat) (hi : i < a.length) (r : Bool) (d : Nat) : ∀ j : Nat, j + d = b.length →
    (apart1 (rd_T70 a (i : Int)) b d j = true → Ev (fun k => impl_SetApart.l0 k b a (a.length : Int) ((i + 1 : Nat) : Int)) r) → (apart1 (rd_T70 a (i : Int)) b d j = false → r = false) →
    Ev (fun k => impl_SetApart.l1 k b a (a.length : Int) (i : Int) b (b.length : Int) (j : Int) (rd_T70 a (i : Int)).f0 (rd_T70 a (i : Int)).f1) r := by
  induction d with
  | zero =>
    intro j hj h1 _
    refine Ev.step (fun _ => rfl) ?_
    simp only [impl_SetApart.l1]
    refine ev_neg (by omega) ?_
    rw [wsucc (by omega)]
    exact h1 rfl
  | succ d ih =>
    intro j hj h1 h2
    refine Ev.step (fun _ => rfl) ?_
    simp only [impl_SetApart.l1]
    rw [wsucc (by omega)]
    unfold apart1 at h1 h2
    refine ev_pos (by omega) (ev_pos (by omega) (ev_pos (by omega) ?_))
    by_cases c : (rd_T70 a (i : Int)).f0 ≤ (rd_T70 b (j : Int)).f1
    · rw [if_pos c] at h1 h2
      refine ev_pos c ?_
      by_cases e : (rd_T70 b (j : Int)).f0 ≤ (rd_T70 a (i : Int)).f1
      · rw [if_pos e] at h1 h2
        exact ev_pos e (ev_some (h2 rfl).symm)
      · rw [if_neg e] at h1 h2
        exact ev_neg e (ih (j + 1) (by omega) h1 h2)
    · rw [if_neg c] at h1 h2
      exact ev_neg c (ih (j + 1) (by omega) h1 h2)
theorem impl_apart_at (a b : List S70) (ha : a.length ≤ 1048576) (hb : b.length ≤ 1048576) (d : Nat) : ∀ i : Nat, i + d = a.length → Ev (fun k => impl_SetApart.l0 k b a (a.length : Int) (i : Int)) (apartFrom a b d i) := by
  induction d with
  | zero =>
    intro i hi
    refine Ev.step (fun _ => rfl) ?_
    simp only [impl_SetApart.l0]
    exact ev_neg (by omega) (ev_some rfl)
  | succ d ih =>
    intro i hi
    refine Ev.step (fun _ => rfl) ?_
    simp only [impl_SetApart.l0]
    refine ev_pos (by omega) (ev_pos (by omega) (ev_pos (by omega) ?_))
    unfold apartFrom
    refine impl_apart1_at a b ha hb i (by omega) _ b.length 0 (by omega) (fun h => ?_) (fun h => ?_)
    · rw [h, Bool.true_and]
      exact ih (i + 1) (by omega)
    · rw [h, Bool.false_and]
theorem spec_setApart_ev (a b : List S70) (ha : a.length ≤ 1048576) (hb : b.length ≤ 1048576) : Ev (fun k => spec_SetApart.f k a b) (setApart a b) := by
  unfold spec_SetApart.f setApart
  refine Ev.bind (spec_setOk_ev a ha) ?_
  cases h : setOk a with
  | false =>
    refine ev_neg (by simp) (Ev.step (fun _ => rfl) ?_)
    simp only [spec_SetApart.j0]
    exact ev_pos (by trivial) (ev_some rfl)
  | true =>
    refine ev_pos rfl (Ev.bind (spec_setOk_ev b hb) (Ev.step (fun _ => rfl) ?_))
    simp only [spec_SetApart.j0]
    cases h2 : setOk b with
    | false => exact ev_pos (by trivial) (ev_some rfl)
    | true => exact ev_neg (by simp) (spec_apart_at a b ha hb a.length 0 (by omega))
theorem impl_setApart_ev (a b : List S70) (ha : a.length ≤ 1048576) (hb : b.length ≤ 1048576) : Ev (fun k => impl_SetApart.f k a b) (setApart a b) := by
  unfold impl_SetApart.f setApart
  refine Ev.bind (impl_setOk_ev a ha) ?_
  cases h : setOk a with
  | false =>
    refine ev_neg (by simp) (Ev.step (fun _ => rfl) ?_)
    simp only [impl_SetApart.j0]
    exact ev_pos (by trivial) (ev_some rfl)
  | true =>
    refine ev_pos rfl (Ev.bind (impl_setOk_ev b hb) (Ev.step (fun _ => rfl) ?_))
    simp only [impl_SetApart.j0]
    cases h2 : setOk b with
    | false => exact ev_pos (by trivial) (ev_some rfl)
    | true => exact ev_neg (by simp) (impl_apart_at a b ha hb a.length 0 (by omega))
def hasN (s : List S70) (n : Int) : Prop := ∃ x ∈ s, x.f0 ≤ n ∧ n ≤ x.f1
def Nrm : List S70 → Prop
  | [] => True
  | x :: s => x.f0 ≤ x.f1 ∧ (∀ y ∈ s, x.f1 + 1 < y.f0) ∧ Nrm s
theorem hasN_nil (n : Int) : ¬ hasN [] n := fun ⟨_, h, _⟩ => by cases h
theorem hasN_cons (x : S70) (s : List S70) (n : Int) : hasN (x :: s) n ↔ (x.f0 ≤ n ∧ n ≤ x.f1) ∨ hasN s n := by
  constructor
  · rintro ⟨z, hz, h⟩
    rcases List.mem_cons.1 hz with rfl | hz
    · exact .inl h
    · exact .inr ⟨z, hz, h⟩
  · rintro (h | ⟨z, hz, h⟩)
    · exact ⟨x, List.mem_cons_self, h⟩
    · exact ⟨z, List.mem_cons_of_mem _ hz, h⟩
theorem hasN_append (s t : List S70) (n : Int) : hasN (s ++ t) n ↔ hasN s n ∨ hasN t n := by
  induction s with
  | nil => simp [hasN_nil]
  | cons x s ih => rw [List.cons_append, hasN_cons, hasN_cons, ih, or_assoc]
theorem hasN_one (x : S70) (n : Int) : hasN [x] n ↔ x.f0 ≤ n ∧ n ≤ x.f1 := by
  rw [hasN_cons]
  exact ⟨fun h => h.elim id (fun h => absurd h (hasN_nil n)), .inl⟩
theorem nrm_append : ∀ (s t : List S70), Nrm (s ++ t) ↔ Nrm s ∧ Nrm t ∧ ∀ x ∈ s, ∀ y ∈ t, x.f1 + 1 < y.f0 := by
  intro s
  induction s with
  | nil => intro t; simp [Nrm]
  | cons x s ih =>
    intro t
    rw [List.cons_append]
    simp only [Nrm, ih t, List.mem_append, List.mem_cons]
    constructor
    · rintro ⟨h1, h2, h3, h4, h5⟩
      refine ⟨⟨h1, fun y hy => h2 y (.inl hy), h3⟩, h4, fun z hz y hy => ?_⟩
      rcases hz with rfl | hz
      · exact h2 y (.inr hy)
      · exact h5 z hz y hy
    · rintro ⟨⟨h1, h2, h3⟩, h4, h5⟩
      refine ⟨h1, fun y hy => ?_, h3, h4, fun z hz y hy => h5 z (.inr hz) y hy⟩
      rcases hy with hy | hy
      · exact h2 y hy
      · exact h5 x (.inl rfl) y hy
theorem nrm_one (x : S70) : Nrm [x] ↔ x.f0 ≤ x.f1 := by simp [Nrm]
theorem Nrm.le {s : List S70} (h : Nrm s) : ∀ x ∈ s, x.f0 ≤ x.f1 := by
  induction s with
  | nil => intro x hx; cases hx
  | cons y s ih =>
    intro x hx
    rcases List.mem_cons.1 hx with rfl | hx
    · exact h.1
    · exact ih h.2.2 x hx
theorem Nrm.head_le {x : S70} {s : List S70} (h : Nrm (x :: s)) {n : Int} (hn : hasN (x :: s) n) : x.f0 ≤ n := by
  rcases (hasN_cons x s n).1 hn with hn | ⟨z, hz, h1, h2⟩
  · exact hn.1
  · have := h.2.1 z hz
    have := h.1
    omega
theorem Nrm.gap {x : S70} {s : List S70} (h : Nrm (x :: s)) : ¬ hasN (x :: s) (x.f1 + 1) := by
  intro hn
  rcases (hasN_cons x s _).1 hn with hn | ⟨z, hz, h1, h2⟩
  · omega
  · have := h.2.1 z hz
    omega
theorem Nrm.tail_gt {x : S70} {s : List S70} (h : Nrm (x :: s)) {n : Int} (hn : hasN s n) : x.f1 + 1 < n := by
  obtain ⟨z, hz, h1, h2⟩ := hn
  have := h.2.1 z hz
  omega
theorem Nrm.uniq : ∀ (s t : List S70), Nrm s → Nrm t → (∀ n, hasN s n ↔ hasN t n) → s = t := by
  intro s
  induction s with
  | nil =>
    intro t hs ht h
    cases t with
    | nil => rfl
    | cons y t => exact absurd ((h y.f0).2 ⟨y, List.mem_cons_self, Int.le_refl _, ht.1⟩) (hasN_nil _)
  | cons x s ih =>
    intro t hs ht h
    cases t with
    | nil => exact absurd ((h x.f0).1 ⟨x, List.mem_cons_self, Int.le_refl _, hs.1⟩) (hasN_nil _)
    | cons y t =>
      have h0 : x.f0 = y.f0 := by
        have a := hs.head_le ((h y.f0).2 ⟨y, List.mem_cons_self, Int.le_refl _, ht.1⟩)
        have b := ht.head_le ((h x.f0).1 ⟨x, List.mem_cons_self, Int.le_refl _, hs.1⟩)
        omega
      have h1 : x.f1 = y.f1 := by
        have := hs.1
        have := ht.1
        by_cases a : x.f1 < y.f1
        · exact absurd ((h (x.f1 + 1)).2 ⟨y, List.mem_cons_self, by omega, by omega⟩) hs.gap
        · by_cases b : y.f1 < x.f1
          · exact absurd ((h (y.f1 + 1)).1 ⟨x, List.mem_cons_self, by omega, by omega⟩) ht.gap
          · omega
      have e : x = y := by
        cases x; cases y
        simp only at h0 h1
        rw [h0, h1]
      subst e
      congr 1
      refine ih t hs.2.2 ht.2.2 (fun n => ⟨fun hn => ?_, fun hn => ?_⟩)
      · have := hs.tail_gt hn
        rcases (hasN_cons x t n).1 ((h n).1 ((hasN_cons x s n).2 (.inr hn))) with h | h
        · omega
        · exact h
      · have := ht.tail_gt hn
        rcases (hasN_cons x s n).1 ((h n).2 ((hasN_cons x t n).2 (.inr hn))) with h | h
        · omega
        · exact h
def putL : List S70 → List S70 → Bool → S70 → List S70
  | [], out, done, x => if done then out else out ++ [x]
  | y :: r, out, done, x =>
    if y.f1 + 1 < x.f0 then putL r (out ++ [y]) done x
    else if x.f1 + 1 < y.f0 then putL r ((if done then out else out ++ [x]) ++ [y]) true x
    else putL r out done ⟨if x.f0 < y.f0 then x.f0 else y.f0, if x.f1 > y.f1 then x.f1 else y.f1⟩
theorem putL_ok (r : List S70) : ∀ (out : List S70) (done : Bool) (x : S70), Nrm r → Nrm out → x.f0 ≤ x.f1 → (done = false → ∀ o ∈ out, o.f1 + 1 < x.f0) → (∀ o ∈ out, ∀ y ∈ r, o.f1 + 1 < y.f0) → (done = true → ∀ y ∈ r, x.f1 + 1 < y.f0) →
    Nrm (putL r out done x) ∧ ∀ n, hasN (putL r out done x) n ↔ hasN out n ∨ hasN r n ∨ (done = false ∧ x.f0 ≤ n ∧ n ≤ x.f1) := by
  induction r with
  | nil =>
    intro out done x hr ho hx h1 h2 h3
    cases done with
    | true => exact ⟨ho, fun n => by simp [putL, hasN_nil]⟩
    | false =>
      refine ⟨(nrm_append _ _).2 ⟨ho, (nrm_one x).2 hx, fun o hm y hy => ?_⟩, fun n => ?_⟩
      · rw [List.mem_singleton.1 hy]
        exact h1 rfl o hm
      · simp [putL, hasN_nil, hasN_append, hasN_one]
  | cons y r ih =>
    intro out done x hr ho hx h1 h2 h3
    have hy := hr.1
    have hyr := hr.2.1
    simp only [putL]
    by_cases c1 : y.f1 + 1 < x.f0
    · rw [if_pos c1]
      have hd : done = false := by
        cases done with
        | false => rfl
        | true => have := h3 rfl y List.mem_cons_self; omega
      subst hd
      obtain ⟨e1, e2⟩ := ih (out ++ [y]) false x hr.2.2 ((nrm_append _ _).2 ⟨ho, (nrm_one y).2 hy, fun o hm z hz => by rw [List.mem_singleton.1 hz]; exact h2 o hm y List.mem_cons_self⟩) hx
        (fun _ o hm => by
          rcases List.mem_append.1 hm with hm | hm
          · exact h1 rfl o hm
          · rw [List.mem_singleton.1 hm]; exact c1)
        (fun o hm z hz => by
          rcases List.mem_append.1 hm with hm | hm
          · exact h2 o hm z (List.mem_cons_of_mem _ hz)
          · rw [List.mem_singleton.1 hm]; exact hyr z hz)
        (fun h => by cases h)
      refine ⟨e1, fun n => ?_⟩
      rw [e2 n, hasN_append, hasN_one, hasN_cons]
      constructor
      · rintro ((h | h) | h | h)
        · exact .inl h
        · exact .inr (.inl (.inl h))
        · exact .inr (.inl (.inr h))
        · exact .inr (.inr h)
      · rintro (h | (h | h) | h)
        · exact .inl (.inl h)
        · exact .inl (.inr h)
        · exact .inr (.inl h)
        · exact .inr (.inr h)
    · rw [if_neg c1]
      by_cases c2 : x.f1 + 1 < y.f0
      · rw [if_pos c2]
        have hbase : Nrm (if done then out else out ++ [x]) := by
          cases done with
          | true => exact ho
          | false => exact (nrm_append _ _).2 ⟨ho, (nrm_one x).2 hx, fun o hm z hz => by rw [List.mem_singleton.1 hz]; exact h1 rfl o hm⟩
        have hlt : ∀ o ∈ (if done then out else out ++ [x]), ∀ z ∈ y :: r, o.f1 + 1 < z.f0 := by
          intro o hm z hz
          cases done with
          | true => exact h2 o hm z hz
          | false =>
            rcases List.mem_append.1 hm with hm | hm
            · exact h2 o hm z hz
            · rw [List.mem_singleton.1 hm]
              rcases List.mem_cons.1 hz with rfl | hz
              · exact c2
              · have := hyr z hz; omega
        obtain ⟨e1, e2⟩ := ih ((if done then out else out ++ [x]) ++ [y]) true x hr.2.2 ((nrm_append _ _).2 ⟨hbase, (nrm_one y).2 hy, fun o hm z hz => by rw [List.mem_singleton.1 hz]; exact hlt o hm y List.mem_cons_self⟩) hx
          (fun h => by cases h)
          (fun o hm z hz => by
            rcases List.mem_append.1 hm with hm | hm
            · exact hlt o hm z (List.mem_cons_of_mem _ hz)
            · rw [List.mem_singleton.1 hm]; exact hyr z hz)
          (fun _ z hz => by have := hyr z hz; omega)
        refine ⟨e1, fun n => ?_⟩
        rw [e2 n, hasN_append, hasN_one, hasN_cons]
        have hb : hasN (if done then out else out ++ [x]) n ↔ hasN out n ∨ (done = false ∧ x.f0 ≤ n ∧ n ≤ x.f1) := by
          cases done with
          | true => simp
          | false => simp [hasN_append, hasN_one]
        rw [hb]
        constructor
        · rintro (((h | h) | h) | h | h)
          · exact .inl h
          · exact .inr (.inr h)
          · exact .inr (.inl (.inl h))
          · exact .inr (.inl (.inr h))
          · cases h.1
        · rintro (h | (h | h) | h)
          · exact .inl (.inl (.inl h))
          · exact .inl (.inr h)
          · exact .inr (.inl h)
          · exact .inl (.inl (.inr h))
      · rw [if_neg c2]
        have hd : done = false := by
          cases done with
          | false => rfl
          | true => exact absurd (h3 rfl y List.mem_cons_self) c2
        subst hd
        obtain ⟨e1, e2⟩ := ih out false ⟨if x.f0 < y.f0 then x.f0 else y.f0, if x.f1 > y.f1 then x.f1 else y.f1⟩ hr.2.2 ho (by simp only; split <;> split <;> omega)
          (fun _ o hm => by
            have := h1 rfl o hm
            have := h2 o hm y List.mem_cons_self
            simp only
            split <;> omega)
          (fun o hm z hz => h2 o hm z (List.mem_cons_of_mem _ hz))
          (fun h => by cases h)
        refine ⟨e1, fun n => ?_⟩
        rw [e2 n, hasN_cons]
        have hh : (((if x.f0 < y.f0 then x.f0 else y.f0) ≤ n ∧ n ≤ (if x.f1 > y.f1 then x.f1 else y.f1)) ↔ ((y.f0 ≤ n ∧ n ≤ y.f1) ∨ (x.f0 ≤ n ∧ n ≤ x.f1))) := by
          split <;> split <;> omega
        simp only [hh, true_and]
        constructor
        · rintro (h | h | h | h)
          · exact .inl h
          · exact .inr (.inl (.inr h))
          · exact .inr (.inl (.inl h))
          · exact .inr (.inr h)
        · rintro (h | (h | h) | h)
          · exact .inl h
          · exact .inr (.inr (.inl h))
          · exact .inr (.inl h)
          · exact .inr (.inr (.inr h))
def put (s : List S70) (x : S70) : List S70 := putL s [] false x
theorem put_ok {s : List S70} {x : S70} (hs : Nrm s) (hx : x.f0 ≤ x.f1) : Nrm (put s x) ∧ ∀ n, hasN (put s x) n ↔ hasN s n ∨ (x.f0 ≤ n ∧ n ≤ x.f1) := by
  obtain ⟨h1, h2⟩ := putL_ok s [] false x hs trivial hx (fun _ o ho => by cases ho) (fun o ho => by cases ho) (fun h => by cases h)
  exact ⟨h1, fun n => by rw [put, h2 n]; simp [hasN_nil]⟩
def joinL (a b : List S70) : List S70 := b.foldl put a
theorem joinL_ok (b : List S70) : ∀ a : List S70, Nrm a → (∀ x ∈ b, x.f0 ≤ x.f1) → Nrm (joinL a b) ∧ ∀ n, hasN (joinL a b) n ↔ hasN a n ∨ hasN b n := by
  induction b with
  | nil => intro a ha hb; exact ⟨ha, fun n => by simp [joinL, hasN_nil]⟩
  | cons x b ih =>
    intro a ha hb
    obtain ⟨p1, p2⟩ := put_ok ha (hb x List.mem_cons_self)
    obtain ⟨q1, q2⟩ := ih (put a x) p1 (fun y hy => hb y (List.mem_cons_of_mem _ hy))
    refine ⟨q1, fun n => ?_⟩
    rw [show joinL a (x :: b) = joinL (put a x) b from rfl, q2 n, p2 n, hasN_cons, or_assoc]
def unL : List S70 → List S70 → List S70
  | [], out => out
  | x :: r, out =>
    if h : 0 < out.length then
      if x.f0 ≤ (out[out.length - 1]'(by omega)).f1 + 1 then unL r (out.set (out.length - 1) ⟨(out[out.length - 1]'(by omega)).f0, if (out[out.length - 1]'(by omega)).f1 > x.f1 then (out[out.length - 1]'(by omega)).f1 else x.f1⟩)
      else unL r (out ++ [x])
    else unL r (out ++ [x])
theorem snoc_form (l : List S70) (h : 0 < l.length) : ∃ o z, l = o ++ [z] := by
  have hne : l ≠ [] := by intro e; subst e; simp at h
  exact ⟨l.dropLast, l.getLast hne, (List.dropLast_concat_getLast hne).symm⟩
theorem unL_ok (r : List S70) : ∀ (out : List S70), Nrm out → List.Pairwise (fun x y => x.f0 ≤ y.f0) r → (∀ x ∈ r, x.f0 ≤ x.f1) → (∀ o z, out = o ++ [z] → ∀ y ∈ r, z.f0 ≤ y.f0) →
    Nrm (unL r out) ∧ ∀ n, hasN (unL r out) n ↔ hasN out n ∨ hasN r n := by
  induction r with
  | nil => intro out ho hp hr hl; exact ⟨ho, fun n => by simp [unL, hasN_nil]⟩
  | cons x r ih =>
    intro out ho hp hr hl
    have hx := hr x List.mem_cons_self
    have hp1 := (List.pairwise_cons.1 hp).1
    have hp2 := (List.pairwise_cons.1 hp).2
    simp only [unL]
    by_cases h0 : 0 < out.length
    · obtain ⟨o, z, rfl⟩ := snoc_form out h0
      have hz : (o ++ [z])[(o ++ [z]).length - 1]'(by omega) = z := by simp
      have hset : ∀ v, (o ++ [z]).set ((o ++ [z]).length - 1) v = o ++ [v] := by
        intro v
        rw [List.length_append, List.length_singleton, Nat.add_sub_cancel, List.set_append_right _ _ (Nat.le_refl _), Nat.sub_self]
        rfl
      rw [dif_pos h0]
      simp only [hz, hset]
      obtain ⟨n1, n2, n3⟩ := (nrm_append o [z]).1 ho
      have hzx := hl o z rfl x List.mem_cons_self
      have hzz := (nrm_one z).1 n2
      by_cases c : x.f0 ≤ z.f1 + 1
      · rw [if_pos c]
        obtain ⟨e1, e2⟩ := ih (o ++ [⟨z.f0, if z.f1 > x.f1 then z.f1 else x.f1⟩]) ((nrm_append _ _).2 ⟨n1, (nrm_one _).2 (by simp only; split <;> omega), fun a ha b hb => by
            rw [List.mem_singleton.1 hb]; exact n3 a ha z (List.mem_singleton.2 rfl)⟩) hp2 (fun y hy => hr y (List.mem_cons_of_mem _ hy))
          (fun o' z' e y hy => by
            have := (List.append_inj_right' e rfl)
            simp only [List.cons.injEq, and_true] at this
            subst this
            have := hp1 y hy
            simp only
            omega)
        refine ⟨e1, fun n => ?_⟩
        rw [e2 n, hasN_append, hasN_append, hasN_one, hasN_one, hasN_cons]
        have hh : ((z.f0 ≤ n ∧ n ≤ (if z.f1 > x.f1 then z.f1 else x.f1)) ↔ ((z.f0 ≤ n ∧ n ≤ z.f1) ∨ (x.f0 ≤ n ∧ n ≤ x.f1))) := by
          split <;> omega
        simp only [hh, or_assoc]
      · rw [if_neg c]
        obtain ⟨e1, e2⟩ := ih (o ++ [z] ++ [x]) ((nrm_append _ _).2 ⟨ho, (nrm_one x).2 hx, fun a ha b hb => by
            rw [List.mem_singleton.1 hb]
            rcases List.mem_append.1 ha with ha | ha
            · have := n3 a ha z (List.mem_singleton.2 rfl); omega
            · rw [List.mem_singleton.1 ha]; omega⟩) hp2 (fun y hy => hr y (List.mem_cons_of_mem _ hy))
          (fun o' z' e y hy => by
            have := (List.append_inj_right' e rfl)
            simp only [List.cons.injEq, and_true] at this
            subst this
            exact hp1 y hy)
        refine ⟨e1, fun n => ?_⟩
        rw [e2 n, hasN_append, hasN_one, hasN_cons, or_assoc]
    · rw [dif_neg h0]
      have : out = [] := by
        cases out with
        | nil => rfl
        | cons a l => simp at h0
      subst this
      obtain ⟨e1, e2⟩ := ih ([] ++ [x]) ((nrm_one x).2 hx) hp2 (fun y hy => hr y (List.mem_cons_of_mem _ hy))
        (fun o' z' e y hy => by
          have := (List.append_inj_right' e rfl)
          simp only [List.cons.injEq, and_true] at this
          subst this
          exact hp1 y hy)
      refine ⟨e1, fun n => ?_⟩
      rw [e2 n, hasN_append, hasN_one, hasN_cons, or_assoc]
theorem hasN_perm {s t : List S70} (h : s.Perm t) (n : Int) : hasN s n ↔ hasN t n := ⟨fun ⟨x, hx, e⟩ => ⟨x, h.mem_iff.1 hx, e⟩, fun ⟨x, hx, e⟩ => ⟨x, h.mem_iff.2 hx, e⟩⟩
theorem un_join {a b d : List S70} (ha : Nrm a) (hb : ∀ x ∈ b, x.f0 ≤ x.f1) (hd : d.Perm (a ++ b)) (hs : List.Pairwise (fun x y => x.f0 ≤ y.f0) d) : unL d [] = joinL a b := by
  obtain ⟨h1, h2⟩ := joinL_ok b a ha hb
  obtain ⟨h3, h4⟩ := unL_ok d [] trivial hs (fun x hx => by
    rcases List.mem_append.1 (hd.mem_iff.1 hx) with h | h
    · exact ha.le x h
    · exact hb x h) (fun o z e => by simp at e)
  refine Nrm.uniq _ _ h3 h1 (fun n => ?_)
  rw [h4 n, h2 n, hasN_perm hd, hasN_append]
  simp [hasN_nil]
def Bd (s : List S70) : Prop := ∀ x ∈ s, 0 ≤ x.f0 ∧ x.f1 ≤ 9999
theorem nrm_iff : ∀ s : List S70, Nrm s ↔ ∀ (j : Nat) (hj : j < s.length), s[j].f0 ≤ s[j].f1 ∧ ∀ (hz : 0 < j), (s[j - 1]'(by omega)).f1 + 1 < s[j].f0 := by
  intro s
  induction s with
  | nil => exact ⟨fun _ j hj => absurd hj (by simp), fun _ => trivial⟩
  | cons x s ih =>
    constructor
    · rintro ⟨h1, h2, h3⟩ j hj
      cases j with
      | zero => exact ⟨h1, fun hz => absurd hz (by omega)⟩
      | succ j =>
        have hj' : j < s.length := by simpa using hj
        obtain ⟨g1, g2⟩ := (ih.1 h3) j hj'
        refine ⟨g1, fun _ => ?_⟩
        cases j with
        | zero => exact h2 _ (List.getElem_mem hj')
        | succ j => exact g2 (by omega)
    · intro h
      have hs : Nrm s := ih.2 (fun j hj => by
        obtain ⟨g1, g2⟩ := h (j + 1) (by simpa using hj)
        refine ⟨g1, fun hz => ?_⟩
        have := g2 (by omega)
        cases j with
        | zero => omega
        | succ j => exact this)
      refine ⟨(h 0 (by simp)).1, fun y hy => ?_, hs⟩
      cases s with
      | nil => cases hy
      | cons z s =>
        have hz := (h 1 (by simp)).2 (by omega)
        rcases List.mem_cons.1 hy with rfl | hy
        · exact hz
        · have h1 := hs.2.1 y hy
          have h2 := hs.1
          have hz' : x.f1 + 1 < z.f0 := hz
          omega
theorem setOkFrom_iff (s : List S70) (d : Nat) : ∀ i, i + d = s.length → (setOkFrom s d i = true ↔ ∀ (j : Nat) (hj : j < s.length), i ≤ j → (0 ≤ s[j].f0 ∧ s[j].f0 ≤ 9999) ∧ (s[j].f0 ≤ s[j].f1 ∧ s[j].f1 ≤ 9999) ∧ ∀ (hz : 0 < j), ¬ s[j].f0 ≤ wrap64 ((s[j - 1]'(by omega)).f1 + 1)) := by
  induction d with
  | zero => intro i hi; exact ⟨fun _ j hj hij => absurd hj (by omega), fun _ => rfl⟩
  | succ d ih =>
    intro i hi
    have hil : i < s.length := by omega
    unfold setOkFrom
    rw [rdI_get hil]
    have key : (∀ (j : Nat) (hj : j < s.length), i ≤ j → (0 ≤ s[j].f0 ∧ s[j].f0 ≤ 9999) ∧ (s[j].f0 ≤ s[j].f1 ∧ s[j].f1 ≤ 9999) ∧ ∀ (hz : 0 < j), ¬ s[j].f0 ≤ wrap64 ((s[j - 1]'(by omega)).f1 + 1)) ↔ ((0 ≤ s[i].f0 ∧ s[i].f0 ≤ 9999) ∧ (s[i].f0 ≤ s[i].f1 ∧ s[i].f1 ≤ 9999) ∧ ∀ (hz : 0 < i), ¬ s[i].f0 ≤ wrap64 ((s[i - 1]'(by omega)).f1 + 1)) ∧ setOkFrom s d (i + 1) = true := by
      rw [ih (i + 1) (by omega)]
      constructor
      · intro h
        exact ⟨h i hil (Nat.le_refl _), fun j hj hij => h j hj (by omega)⟩
      · rintro ⟨h1, h2⟩ j hj hij
        by_cases e : i = j
        · subst e; exact h1
        · exact h2 j hj (by omega)
    rw [key]
    by_cases h1 : 0 ≤ s[i].f0 ∧ s[i].f0 ≤ 9999
    · rw [if_pos h1]
      by_cases h2 : s[i].f0 ≤ s[i].f1 ∧ s[i].f1 ≤ 9999
      · rw [if_pos h2]
        by_cases h3 : 0 < i
        · rw [if_pos h3, rdI_get (show i - 1 < s.length by omega)]
          by_cases h4 : s[i].f0 ≤ wrap64 ((s[i - 1]'(by omega)).f1 + 1)
          · rw [if_pos h4]
            exact ⟨fun h => (by cases h), fun h => absurd h4 (h.1.2.2 h3)⟩
          · rw [if_neg h4]
            exact ⟨fun h => ⟨⟨h1, h2, fun _ => h4⟩, h⟩, fun h => h.2⟩
        · rw [if_neg h3]
          exact ⟨fun h => ⟨⟨h1, h2, fun hz => absurd hz h3⟩, h⟩, fun h => h.2⟩
      · rw [if_neg h2]
        exact ⟨fun h => (by cases h), fun h => absurd h.1.2.1 h2⟩
    · rw [if_neg h1]
      exact ⟨fun h => (by cases h), fun h => absurd h.1.1 h1⟩
theorem setOk_iff (s : List S70) : setOk s = true ↔ Nrm s ∧ Bd s := by
  unfold setOk
  rw [setOkFrom_iff s s.length 0 (by omega), nrm_iff]
  constructor
  · intro h
    have hb : Bd s := fun x hx => by
      obtain ⟨j, hj, rfl⟩ := List.getElem_of_mem hx
      have := h j hj (by omega)
      exact ⟨this.1.1, this.2.1.2⟩
    refine ⟨fun j hj => ⟨(h j hj (by omega)).2.1.1, fun hz => ?_⟩, hb⟩
    have h1 := (h j hj (by omega)).2.2 hz
    have h2 := h (j - 1) (by omega) (by omega)
    rw [w64 (by omega) (by omega)] at h1
    omega
  · rintro ⟨h, hb⟩ j hj _
    have h1 := hb _ (List.getElem_mem hj)
    have h2 := h j hj
    refine ⟨⟨h1.1, by omega⟩, ⟨h2.1, h1.2⟩, fun hz => ?_⟩
    have h3 := hb _ (List.getElem_mem (show j - 1 < s.length by omega))
    have h4 := h2.2 hz
    have h5 := (h (j - 1) (by omega)).1
    rw [w64 (by omega) (by omega)]
    omega
theorem sortA_list (l : List S70) : (sortA l).toList.Perm l ∧ List.Pairwise (fun x y => x.f0 ≤ y.f0) (sortA l).toList := by
  obtain ⟨⟨h1, _, h3⟩, h4⟩ := sortA_ok l
  have e : (sortA l).size = l.toArray.size := h1
  refine ⟨?_, ?_⟩
  · rw [← e] at h3
    simp only [Array.extract_size] at h3
    rw [e] at h3
    simpa using h3
  · rw [List.pairwise_iff_getElem]
    intro i j hi hj hij
    have hi' : i < (sortA l).size := by simpa using hi
    have hj' : j < (sortA l).size := by simpa using hj
    have := h4 i j (Nat.zero_le _) hij (by omega)
    rw [sortCf_lt, getElem!_pos (sortA l) i hi', getElem!_pos (sortA l) j hj'] at this
    simp only [decide_eq_false_iff_not] at this
    simp only [Array.getElem_toList]
    omega
theorem mx_is (a b : Int) : mx a b = if a > b then a else b := by
  unfold mx
  split <;> split <;> omega
theorem union_at (d : List S70) (hb : ∀ x ∈ d, 0 ≤ x.f1 ∧ x.f1 ≤ 9999) (hd : d.length ≤ 2097152) (n : Nat) : ∀ (i : Nat) (out : List S70), i + n = d.length → out.length ≤ i → (∀ o ∈ out, 0 ≤ o.f1 ∧ o.f1 ≤ 9999) →
    Ev (fun k => impl_union.l0 k out d (d.length : Int) (i : Int)) (unL (d.drop i) out) := by
  induction n with
  | zero =>
    intro i out hi ho hob
    refine Ev.step (fun _ => rfl) ?_
    simp only [impl_union.l0]
    refine ev_neg (by omega) (ev_some ?_)
    rw [List.drop_of_length_le (by omega)]
    rfl
  | succ n ih =>
    intro i out hi ho hob
    have hil : i < d.length := by omega
    have hx := hb _ (List.getElem_mem hil)
    refine Ev.step (fun _ => rfl) ?_
    simp only [impl_union.l0]
    rw [List.drop_eq_getElem_cons hil, wsucc (by omega), rdI_get hil]
    refine ev_pos (by omega) (ev_pos (by omega) (ev_pos (by omega) ?_))
    have ap : Ev (fun k => if out.length < 8796093022208 then impl_union.l0 k (out ++ [(⟨d[i].f0, d[i].f1⟩ : S70)]) d (d.length : Int) ((i + 1 : Nat) : Int) else none) (unL (d.drop (i + 1)) (out ++ [d[i]])) :=
      ev_pos (by omega) (ih (i + 1) _ (by omega) (by simp; omega) (fun o h => by
        rcases List.mem_append.1 h with h | h
        · exact hob o h
        · rw [List.mem_singleton.1 h]; exact hx))
    by_cases h0 : 0 < out.length
    · have hz := hob _ (List.getElem_mem (show out.length - 1 < out.length by omega))
      simp only [unL]
      rw [dif_pos h0, wpred h0 (by omega), rdI_get (show out.length - 1 < out.length by omega), w64 (x := (out[out.length - 1]'(by omega)).f1 + 1) (by omega) (by omega), Int.toNat_natCast, mx_is]
      refine ev_pos (by omega) (ev_pos (by omega) (ev_pos (by omega) ?_))
      by_cases c : d[i].f0 ≤ (out[out.length - 1]'(by omega)).f1 + 1
      · rw [if_pos c]
        refine ev_pos c (ih (i + 1) _ (by omega) (by simp; omega) (fun o h => ?_))
        rcases List.mem_or_eq_of_mem_set h with h | h
        · exact hob o h
        · subst h
          simp only
          split <;> omega
      · rw [if_neg c]
        exact ev_neg c ap
    · simp only [unL]
      rw [dif_neg h0]
      exact ev_neg (by omega) ap
theorem impl_union_ev (l : List S70) (hl : l.length ≤ 2097152) (hb : ∀ x ∈ l, 0 ≤ x.f1 ∧ x.f1 ≤ 9999) : Ev (fun k => impl_union.f k l) (unL (sortA l).toList []) := by
  have hp := (sortA_list l).1
  have hlen := hp.length_eq
  unfold impl_union.f
  refine ev_bind0 (a := l) (by unfold impl_copySet.f; rw [if_pos (by simp; omega), List.nil_append]) ?_
  refine ev_bind0 (a := (sortA l).toList) (by unfold slices_SortFunc_impl_Span.f; rw [if_pos (by omega)]) ?_
  rw [← hlen]
  have := union_at (sortA l).toList (fun x hx => hb x (hp.mem_iff.1 hx)) (by omega) (sortA l).toList.length 0 [] (by omega) (by simp) (fun o h => by cases h)
  rw [List.drop_zero] at this
  exact this
theorem union_join {a b : List S70} (ha : Nrm a) (hA : Bd a) (hb : ∀ x ∈ b, x.f0 ≤ x.f1) (hB : Bd b) (hl : (a ++ b).length ≤ 2097152) : Ev (fun k => impl_union.f k (a ++ b)) (joinL a b) := by
  have h := impl_union_ev (a ++ b) hl (fun x hx => by
    rcases List.mem_append.1 hx with h | h
    · have := hA x h; have := ha.le x h; omega
    · have := hB x h; have := hb x h; omega)
  rwa [un_join ha hb (sortA_list _).1 (sortA_list _).2] at h
theorem putL_len (r : List S70) : ∀ (out : List S70) (done : Bool) (x : S70), (putL r out done x).length ≤ out.length + r.length + (if done then 0 else 1) := by
  induction r with
  | nil => intro out done x; unfold putL; cases done <;> simp
  | cons y r ih =>
    intro out done x
    unfold putL
    split
    · have := ih (out ++ [y]) done x; simp only [List.length_append, List.length_cons, List.length_nil] at this ⊢; omega
    · split
      · have := ih ((if done then out else out ++ [x]) ++ [y]) true x
        cases done <;> simp only [List.length_append, List.length_cons, List.length_nil, if_true, if_false, Bool.false_eq_true] at this ⊢ <;> omega
      · have := ih out done ⟨if x.f0 < y.f0 then x.f0 else y.f0, if x.f1 > y.f1 then x.f1 else y.f1⟩; simp only [List.length_cons] at this ⊢; omega
theorem putL_bd (r : List S70) : ∀ (out : List S70) (done : Bool) (x : S70), Bd r → Bd out → (0 ≤ x.f0 ∧ x.f1 ≤ 9999) → Bd (putL r out done x) := by
  have ap : ∀ (l : List S70) (x : S70), Bd l → (0 ≤ x.f0 ∧ x.f1 ≤ 9999) → Bd (l ++ [x]) := fun l x hl hx z hz => by
    rcases List.mem_append.1 hz with h | h
    · exact hl z h
    · rw [List.mem_singleton.1 h]; exact hx
  induction r with
  | nil =>
    intro out done x _ ho hx
    unfold putL
    cases done
    · exact ap _ _ ho hx
    · exact ho
  | cons y r ih =>
    intro out done x hr ho hx
    have hy := hr y List.mem_cons_self
    have hr' : Bd r := fun z hz => hr z (List.mem_cons_of_mem _ hz)
    unfold putL
    split
    · exact ih _ _ _ hr' (ap _ _ ho hy) hx
    · split
      · refine ih _ _ _ hr' (ap _ _ ?_ hy) hx
        cases done
        · exact ap _ _ ho hx
        · exact ho
      · refine ih _ _ _ hr' ho ?_
        simp only
        constructor <;> split <;> omega
theorem spec_put_at (s : List S70) (hs : Bd s) (hle : ∀ x ∈ s, x.f0 ≤ x.f1) (hn : s.length ≤ 2097152) (d : Nat) : ∀ (i : Nat) (out : List S70) (done : Bool) (x : S70), i + d = s.length → out.length ≤ 2 * i → (0 ≤ x.f0 ∧ x.f1 ≤ 9999 ∧ x.f0 ≤ x.f1) →
    Ev (fun k => spec_l5Put.l0 k s out done (i : Int) x.f0 x.f1) (putL (s.drop i) out done x) := by
  induction d with
  | zero =>
    intro i out done x hi ho hx
    refine Ev.step (fun _ => rfl) ?_
    simp only [spec_l5Put.l0]
    rw [List.drop_of_length_le (by omega)]
    refine ev_neg (by omega) ?_
    unfold putL
    cases done
    · exact ev_neg (by decide) (ev_pos (by omega) (ev_some rfl))
    · exact ev_pos rfl (ev_some rfl)
  | succ d ih =>
    intro i out done x hi ho hx
    have hil : i < s.length := by omega
    have hy := hs _ (List.getElem_mem hil)
    have hyl := hle _ (List.getElem_mem hil)
    refine Ev.step (fun _ => rfl) ?_
    simp only [spec_l5Put.l0]
    rw [List.drop_eq_getElem_cons hil, wsucc (by omega), rdI_get hil, w64 (x := s[i].f1 + 1) (by omega) (by omega), w64 (x := x.f1 + 1) (by omega) (by omega)]
    unfold putL
    refine ev_pos (by omega) (ev_pos (by omega) ?_)
    by_cases c1 : s[i].f1 + 1 < x.f0
    · rw [if_pos c1]
      exact ev_pos c1 (ev_pos (by omega) (ih (i + 1) _ done x (by omega) (by simp; omega) hx))
    · rw [if_neg c1]
      refine ev_neg c1 ?_
      by_cases c2 : x.f1 + 1 < s[i].f0
      · rw [if_pos c2]
        refine ev_pos (by omega) ?_
        cases done
        · refine ev_neg (by decide) (ev_pos (by omega) (ev_bind0 rfl (ev_pos (by simp; omega) ?_)))
          exact ih (i + 1) (out ++ [x] ++ [s[i]]) true x (by omega) (by simp; omega) hx
        · exact ev_pos rfl (ev_pos (by omega) (ih (i + 1) _ true x (by omega) (by simp; omega) hx))
      · rw [if_neg c2]
        refine ev_neg (by omega) (ev_bind0 (a := if x.f0 < s[i].f0 then x.f0 else s[i].f0) (by unfold spec_l1Min.f; split <;> rfl) (ev_bind0 (a := if x.f1 > s[i].f1 then x.f1 else s[i].f1) (by unfold spec_l1Max.f; split <;> rfl) ?_))
        refine ih (i + 1) out done ⟨if x.f0 < s[i].f0 then x.f0 else s[i].f0, if x.f1 > s[i].f1 then x.f1 else s[i].f1⟩ (by omega) (by omega) ?_
        simp only
        refine ⟨?_, ?_, ?_⟩ <;> repeat' split
        all_goals omega
theorem spec_put_ev (s : List S70) (x : S70) (hs : Bd s) (hn : Nrm s) (hl : s.length ≤ 2097152) (hx : 0 ≤ x.f0 ∧ x.f1 ≤ 9999 ∧ x.f0 ≤ x.f1) : Ev (fun k => spec_l5Put.f k s x.f0 x.f1) (put s x) := by
  unfold spec_l5Put.f put
  have := spec_put_at s hs hn.le hl s.length 0 [] false x (by omega) (by simp) hx
  rw [List.drop_zero] at this
  exact this
theorem put_len (s : List S70) (x : S70) : (put s x).length ≤ s.length + 1 := by
  have := putL_len s [] false x
  unfold put
  simp at this
  omega
theorem put_bd {s : List S70} {x : S70} (hs : Bd s) (hx : 0 ≤ x.f0 ∧ x.f1 ≤ 9999) : Bd (put s x) := putL_bd s [] false x hs (fun _ h => by cases h) hx
theorem spec_join_at (b : List S70) (hb : Bd b) (hbl : ∀ x ∈ b, x.f0 ≤ x.f1) (hn : b.length ≤ 1048576) (d : Nat) : ∀ (i : Nat) (a : List S70), i + d = b.length → Bd a → Nrm a → a.length ≤ 1048576 + i →
    Ev (fun k => spec_l5Join.l0 k b a (i : Int)) (joinL a (b.drop i)) := by
  induction d with
  | zero =>
    intro i a hi ha han hal
    refine Ev.step (fun _ => rfl) ?_
    simp only [spec_l5Join.l0]
    rw [List.drop_of_length_le (by omega)]
    exact ev_neg (by omega) (ev_some rfl)
  | succ d ih =>
    intro i a hi ha han hal
    have hil : i < b.length := by omega
    have hy := hb _ (List.getElem_mem hil)
    have hyl := hbl _ (List.getElem_mem hil)
    refine Ev.step (fun _ => rfl) ?_
    simp only [spec_l5Join.l0]
    rw [List.drop_eq_getElem_cons hil, wsucc (by omega), rdI_get hil]
    refine ev_pos (by omega) (ev_pos (by omega) (Ev.bind (spec_put_ev a b[i] ha han (by omega) ⟨hy.1, hy.2, hyl⟩) ?_))
    have hl := put_len a b[i]
    exact ih (i + 1) (put a b[i]) (by omega) (put_bd ha hy) (put_ok han hyl).1 (by omega)
theorem spec_join_ev (a b : List S70) (ha : Bd a) (han : Nrm a) (hal : a.length ≤ 1048576) (hb : Bd b) (hbl : ∀ x ∈ b, x.f0 ≤ x.f1) (hn : b.length ≤ 1048576) : Ev (fun k => spec_l5Join.f k a b) (joinL a b) := by
  unfold spec_l5Join.f
  refine ev_bind0 (a := a) (by unfold spec_l5Copy.f; rw [Option.bind_some, if_pos (by simp; omega), List.nil_append]) ?_
  have := spec_join_at b hb hbl hn b.length 0 a (by omega) ha han (by omega)
  rw [List.drop_zero] at this
  exact this
theorem join_len (b : List S70) : ∀ a : List S70, (joinL a b).length ≤ a.length + b.length := by
  induction b with
  | nil => intro a; simp [joinL]
  | cons x b ih =>
    intro a
    have h1 := ih (put a x)
    have h2 := put_len a x
    rw [show joinL a (x :: b) = joinL (put a x) b from rfl, List.length_cons]
    omega
def joinV (a b : List S70) : List S70 × Bool := if setOk a = true ∧ setOk b = true then (joinL a b, true) else ([], false)
theorem impl_setJoin_ev (a b : List S70) (ha : a.length ≤ 1048576) (hb : b.length ≤ 1048576) : Ev (fun k => impl_SetJoin.f k a b) (joinV a b) := by
  unfold impl_SetJoin.f joinV
  have bad : ∀ v : Bool, v = true → Ev (fun k => impl_SetJoin.j0 k a b v) (([], false) : List S70 × Bool) := fun v hv => by
    refine Ev.step (fun _ => rfl) ?_
    simp only [impl_SetJoin.j0]
    exact ev_pos hv (ev_some rfl)
  refine Ev.bind (impl_setOk_ev a ha) ?_
  by_cases h1 : setOk a = true
  · refine ev_pos h1 (Ev.bind (impl_setOk_ev b hb) ?_)
    by_cases h2 : setOk b = true
    · rw [if_pos ⟨h1, h2⟩, h2]
      obtain ⟨n1, b1⟩ := (setOk_iff a).1 h1
      obtain ⟨n2, b2⟩ := (setOk_iff b).1 h2
      refine Ev.step (fun _ => rfl) ?_
      simp only [impl_SetJoin.j0]
      refine ev_neg (by decide) (ev_bind0 (a := a) (by unfold impl_copySet.f; rw [if_pos (by simp; omega), List.nil_append]) (ev_pos (by omega) ?_))
      exact Ev.bind (union_join n1 b1 n2.le b2 (by rw [List.length_append]; omega)) (ev_some rfl)
    · rw [if_neg (fun h => h2 h.2)]
      exact bad _ (by rw [Bool.not_eq_true] at h2; rw [h2]; rfl)
  · rw [if_neg (fun h => h1 h.1)]
    exact ev_neg h1 (bad true rfl)
def LiOk (xs : List Int) (n : Nat) (most : Int) (zero : Prop) : Prop := xs.length = n ∧ ∀ x ∈ xs, (0 ≤ x ∧ x ≤ most) ∧ (zero → x = 0)
def SkOk (c s mn mx : Int) (h r : List Int) (R : List (List Int)) : Prop :=
  (0 ≤ c ∧ c ≤ 1000000000) ∧ (0 ≤ s ∧ s ≤ 1000000000) ∧ (0 ≤ mn ∧ mn ≤ 1000000) ∧ (0 ≤ mx ∧ mx ≤ 1000000) ∧ mn ≤ mx ∧ R.length = 2 ∧ (c = 0 → s = 0 ∧ mx = 0) ∧
  LiOk h 8 1000000000 (c = 0) ∧ LiOk r 8 17 (c = 0) ∧ LiOk (rd_L2 R 0) 4 1000000000 (c = 0) ∧ LiOk (rd_L2 R 1) 4 1000000000 (c = 0)
noncomputable def skOk (c s mn mx : Int) (h r : List Int) (R : List (List Int)) : Bool := @decide (SkOk c s mn mx h r R) (Classical.propDecidable _)
theorem skOk_true {c s mn mx : Int} {h r : List Int} {R : List (List Int)} : skOk c s mn mx h r R = true ↔ SkOk c s mn mx h r R := by
  unfold skOk
  exact @decide_eq_true_iff _ (Classical.propDecidable _)
theorem skOk_false {c s mn mx : Int} {h r : List Int} {R : List (List Int)} (hn : ¬ SkOk c s mn mx h r R) : skOk c s mn mx h r R = false := by
  cases e : skOk c s mn mx h r R with
  | false => rfl
  | true => exact absurd (skOk_true.1 e) hn
theorem l3List_at (xs : List Int) (n : Nat) (most : Int) (z : Bool) (hn : n ≤ 8) (hl : xs.length = n) (r : Bool) (d : Nat) : ∀ i : Nat, i + d = n →
    ((∀ x ∈ xs.drop i, (0 ≤ x ∧ x ≤ most) ∧ (z = true → x = 0)) → r = true) → (¬ (∀ x ∈ xs.drop i, (0 ≤ x ∧ x ≤ most) ∧ (z = true → x = 0)) → r = false) →
    Ev (fun k => spec_l3List.l0 k xs (n : Int) most z (i : Int)) r := by
  induction d with
  | zero =>
    intro i hi h1 _
    refine Ev.step (fun _ => rfl) ?_
    simp only [spec_l3List.l0]
    refine ev_neg (by omega) (ev_some ?_)
    rw [h1]
    intro x hx
    rw [List.drop_of_length_le (by omega)] at hx
    cases hx
  | succ d ih =>
    intro i hi h1 h2
    have hg : i < xs.length := by omega
    rw [List.drop_eq_getElem_cons hg] at h1 h2
    refine Ev.step (fun _ => rfl) ?_
    simp only [spec_l3List.l0]
    rw [wsucc (by omega), rd_get hg]
    refine ev_pos (by omega) (ev_pos (by omega) (ev_pos (by omega) (ev_bind0 (l1In_is _ _ _) ?_)))
    by_cases c : 0 ≤ xs[i] ∧ xs[i] ≤ most
    · refine ev_pos (decide_eq_true c) ?_
      have hrec : (z = true → xs[i] = 0) → Ev (fun k => spec_l3List.l0 k xs (n : Int) most z ((i + 1 : Nat) : Int)) r := by
        intro hz
        refine ih (i + 1) (by omega) (fun h => h1 fun x hx => ?_) (fun h => h2 fun g => h fun x hx => g x (List.mem_cons_of_mem _ hx))
        rcases List.mem_cons.1 hx with rfl | hx
        · exact ⟨c, hz⟩
        · exact h x hx
      by_cases hz : z = true
      · refine ev_pos hz ?_
        by_cases h0 : xs[i] = 0
        · exact ev_pos h0 (hrec fun _ => h0)
        · refine ev_neg h0 (ev_some ?_)
          exact (h2 fun g => h0 ((g _ List.mem_cons_self).2 hz)).symm
      · exact ev_neg hz (hrec fun h => absurd h hz)
    · refine ev_neg (by rw [decide_eq_false c]; exact Bool.false_ne_true) (ev_some ?_)
      exact (h2 fun g => c (g _ List.mem_cons_self).1).symm
theorem l3List_ev (xs : List Int) (n : Nat) (most : Int) (z : Bool) (hn : n ≤ 8) (r : Bool) (h1 : LiOk xs n most (z = true) → r = true) (h2 : ¬ LiOk xs n most (z = true) → r = false) : Ev (fun k => spec_l3List.f k xs (n : Int) most z) r := by
  unfold spec_l3List.f
  by_cases hl : xs.length = n
  · exact ev_pos (by omega) (l3List_at xs n most z hn hl r n 0 (by omega) (fun h => h1 ⟨hl, h⟩) (fun h => h2 fun g => h g.2))
  · exact ev_neg (by omega) (ev_some (h2 fun g => hl g.1).symm)
theorem l3List_dec (xs : List Int) (n : Nat) (most : Int) (z : Bool) (hn : n ≤ 8) (Z : Prop) (hz : (z = true) = Z) : Ev (fun k => spec_l3List.f k xs (n : Int) most z) (@decide (LiOk xs n most Z) (Classical.propDecidable _)) := by
  subst hz
  exact l3List_ev xs n most z hn _ (fun h => @decide_eq_true _ (Classical.propDecidable _) h) (fun h => @decide_eq_false _ (Classical.propDecidable _) h)
theorem spec_sketchOk_j1 (c s mn mx : Int) (h r : List Int) (R : List (List Int)) (hR : R.length = 2) (f : Bool) (v : Bool)
    (hv : f = false → LiOk h 8 1000000000 (c = 0) → LiOk r 8 17 (c = 0) → LiOk (rd_L2 R 0) 4 1000000000 (c = 0) → LiOk (rd_L2 R 1) 4 1000000000 (c = 0) → v = true)
    (hn : ¬ (f = false ∧ LiOk h 8 1000000000 (c = 0) ∧ LiOk r 8 17 (c = 0) ∧ LiOk (rd_L2 R 0) 4 1000000000 (c = 0) ∧ LiOk (rd_L2 R 1) 4 1000000000 (c = 0)) → v = false) :
    Ev (fun k => spec_SketchOk.j1 k (c == 0) f c s mn mx h r R) v := by
  have ez : ((c == 0) = true) = (c = 0) := by simp
  refine Ev.step (fun _ => rfl) ?_
  simp only [spec_SketchOk.j1]
  refine ev_if (fun hf => ev_some (hn fun g => by rw [hf] at g; exact absurd g.1 (by simp)).symm) (fun hf => ?_)
  have hf' : f = false := by simpa using hf
  have L := fun xs n most hn => l3List_dec xs n most (c == 0) hn (c = 0) ez
  refine Ev.bind (L h 8 1000000000 (by omega)) ?_
  refine ev_if (fun g1 => ?_) (fun g1 => ev_some (hn fun g => g1 (@decide_eq_true _ (Classical.propDecidable _) g.2.1)).symm)
  refine Ev.bind (L r 8 17 (by omega)) ?_
  refine ev_if (fun g2 => ?_) (fun g2 => ev_some (hn fun g => g2 (@decide_eq_true _ (Classical.propDecidable _) g.2.2.1)).symm)
  refine ev_pos (by omega) (Ev.bind (L (rd_L2 R 0) 4 1000000000 (by omega)) ?_)
  refine ev_if (fun g3 => ?_) (fun g3 => ev_some (hn fun g => g3 (@decide_eq_true _ (Classical.propDecidable _) g.2.2.2.1)).symm)
  refine ev_pos (by omega) (Ev.bind (L (rd_L2 R 1) 4 1000000000 (by omega)) (ev_some ?_))
  have t1 := @of_decide_eq_true _ (Classical.propDecidable _) g1
  have t2 := @of_decide_eq_true _ (Classical.propDecidable _) g2
  have t3 := @of_decide_eq_true _ (Classical.propDecidable _) g3
  by_cases t4 : LiOk (rd_L2 R 1) 4 1000000000 (c = 0)
  · rw [hv hf' t1 t2 t3 t4]
    exact @decide_eq_true _ (Classical.propDecidable _) t4
  · rw [hn fun g => t4 g.2.2.2.2]
    exact @decide_eq_false _ (Classical.propDecidable _) t4
theorem spec_sketchOk_ev (c s mn mx : Int) (h r : List Int) (R : List (List Int)) : Ev (fun k => spec_SketchOk.f k c s mn mx h r R) (skOk c s mn mx h r R) := by
  have bad : ¬ SkOk c s mn mx h r R → Ev (fun k => spec_SketchOk.j0 k true c s mn mx h r R) (skOk c s mn mx h r R) := by
    intro hb
    refine Ev.step (fun _ => rfl) ?_
    simp only [spec_SketchOk.j0]
    exact ev_pos (by trivial) (ev_some (skOk_false hb).symm)
  unfold spec_SketchOk.f
  refine ev_bind0 (l1In_is _ _ _) ?_
  by_cases a1 : 0 ≤ c ∧ c ≤ 1000000000
  case neg => exact ev_neg (by rw [decide_eq_false a1]; exact Bool.false_ne_true) (bad fun g => a1 g.1)
  refine ev_pos (decide_eq_true a1) (ev_bind0 (l1In_is _ _ _) ?_)
  by_cases a2 : 0 ≤ s ∧ s ≤ 1000000000
  case neg => exact ev_neg (by rw [decide_eq_false a2]; exact Bool.false_ne_true) (bad fun g => a2 g.2.1)
  refine ev_pos (decide_eq_true a2) (ev_bind0 (l1In_is _ _ _) ?_)
  by_cases a3 : 0 ≤ mn ∧ mn ≤ 1000000
  case neg => exact ev_neg (by rw [decide_eq_false a3]; exact Bool.false_ne_true) (bad fun g => a3 g.2.2.1)
  refine ev_pos (decide_eq_true a3) (ev_bind0 (l1In_is _ _ _) ?_)
  by_cases a4 : 0 ≤ mx ∧ mx ≤ 1000000
  case neg => exact ev_neg (by rw [decide_eq_false a4]; exact Bool.false_ne_true) (bad fun g => a4 g.2.2.2.1)
  refine ev_pos (decide_eq_true a4) ?_
  by_cases a5 : mn ≤ mx
  case neg => exact ev_pos (by omega) (bad fun g => a5 g.2.2.2.2.1)
  refine ev_neg (by omega) ?_
  by_cases a6 : R.length = 2
  case neg =>
    have e : ((R.length : Int) != 2) = true := by simp; omega
    rw [e]
    exact bad fun g => a6 g.2.2.2.2.2.1
  have e : ((R.length : Int) != 2) = false := by simp; omega
  rw [e]
  refine Ev.step (fun _ => rfl) ?_
  simp only [spec_SketchOk.j0]
  refine ev_neg (by simp) ?_
  have fin : ∀ f : Bool, (f = false ↔ (c = 0 → s = 0 ∧ mx = 0)) → Ev (fun k => spec_SketchOk.j1 k (c == 0) f c s mn mx h r R) (skOk c s mn mx h r R) := by
    intro f hf
    refine spec_sketchOk_j1 c s mn mx h r R a6 f _ (fun g1 g2 g3 g4 g5 => skOk_true.2 ⟨a1, a2, a3, a4, a5, a6, hf.1 g1, g2, g3, g4, g5⟩) (fun g => skOk_false fun q => g ⟨hf.2 q.2.2.2.2.2.2.1, q.2.2.2.2.2.2.2⟩)
  refine ev_if (fun z => ?_) (fun z => fin false ⟨fun _ h => absurd h z, fun _ => rfl⟩)
  refine ev_if (fun z2 => fin _ ?_) (fun z2 => fin true ⟨fun h => by simp at h, fun h => absurd (h z).1 z2⟩)
  constructor
  · intro h _
    exact ⟨z2, by simpa using h⟩
  · intro h
    simpa using (h z).2
theorem sum_bd (ys : List Int) (h : ∀ x ∈ ys, 0 ≤ x ∧ x ≤ 1000000000) : 0 ≤ ys.sum ∧ ys.sum ≤ ys.length * 1000000000 := by
  induction ys with
  | nil => simp
  | cons y ys ih =>
    have h1 := h y List.mem_cons_self
    have h2 := ih fun x hx => h x (List.mem_cons_of_mem _ hx)
    rw [List.sum_cons, List.length_cons]
    omega
theorem sum_zero (ys : List Int) (h : ∀ x ∈ ys, 0 ≤ x ∧ x ≤ 1000000000) (h0 : ys.sum = 0) : ∀ x ∈ ys, x = 0 := by
  induction ys with
  | nil => exact fun x hx => by cases hx
  | cons y ys ih =>
    intro x hx
    have h1 := h y List.mem_cons_self
    have h2 := sum_bd ys fun x hx => h x (List.mem_cons_of_mem _ hx)
    rw [List.sum_cons] at h0
    rcases List.mem_cons.1 hx with rfl | hx
    · omega
    · exact ih (fun x hx => h x (List.mem_cons_of_mem _ hx)) (by omega) x hx
theorem zero_sum (ys : List Int) (h : ∀ x ∈ ys, x = 0) : ys.sum = 0 := by
  induction ys with
  | nil => rfl
  | cons y ys ih =>
    rw [List.sum_cons, h y List.mem_cons_self, ih fun x hx => h x (List.mem_cons_of_mem _ hx)]
    rfl
theorem copyInts_is (xs : List Int) (h : xs.length ≤ 1048576) : impl_copyInts.f xs = some xs := by
  unfold impl_copyInts.f
  rw [if_pos (by simp; omega)]
  rfl
theorem counts_ev (c s mn mx : Int) (h r A B : List Int) (hh : h.length ≤ 8) (hr : r.length ≤ 8) (hA : A.length ≤ 8) (hB : B.length ≤ 8) :
    Ev (fun k => impl_counts.f k c s mn mx h r [A, B]) (((h ++ r) ++ A) ++ B) := by
  unfold impl_counts.f
  refine ev_bind0 (copyInts_is h (by omega)) (ev_pos (by omega) ?_)
  refine Ev.step (fun _ => rfl) ?_
  simp only [impl_counts.l0]
  refine ev_pos (by simp) (ev_pos (by simp) (ev_pos (by simp) ?_))
  have e0 : rd_L2 [A, B] 0 = A := rfl
  have w1 : wrap64 (0 + 1) = 1 := by unfold wrap64; omega
  have w2 : wrap64 (1 + 1) = 2 := by unfold wrap64; omega
  have e1 : rd_L2 [A, B] (wrap64 (0 + 1)) = B := by rw [w1]; rfl
  refine ev_pos (by rw [e0]; simp; omega) ?_
  refine Ev.step (fun _ => rfl) ?_
  simp only [impl_counts.l0]
  refine ev_pos (by rw [w1]; simp) (ev_pos (by rw [w1]; omega) (ev_pos (by rw [w1]; simp) ?_))
  refine ev_pos (by rw [e0, e1]; simp; omega) ?_
  refine Ev.step (fun _ => rfl) ?_
  simp only [impl_counts.l0]
  exact ev_neg (by rw [w1, w2]; simp) (ev_some (by rw [e0, e1]))
theorem impl_sketchOk_l1 (c s mn mx : Int) (h r : List Int) (R : List (List Int)) (v : Bool) (t : Int) (hr : r.length ≤ 8) (d : Nat) : ∀ i : Nat, i + d = r.length →
    ((∀ x ∈ r.drop i, x ≤ 17) → v = if c = 0 then (t == 0) else decide (mn ≤ mx ∧ mx ≤ 1000000)) → (¬ (∀ x ∈ r.drop i, x ≤ 17) → v = false) →
    Ev (fun k => impl_SketchOk.l1 k t r (r.length : Int) (i : Int) c s mn mx h r R) v := by
  induction d with
  | zero =>
    intro i hi h1 _
    refine Ev.step (fun _ => rfl) ?_
    simp only [impl_SketchOk.l1]
    refine ev_neg (by omega) ?_
    rw [h1 (fun x hx => by rw [List.drop_of_length_le (by omega)] at hx; cases hx)]
    by_cases hc : c = 0
    · exact ev_pos hc (ev_some (by rw [if_pos hc]))
    · refine ev_neg hc (ev_if (fun g => ev_some ?_) (fun g => ev_some (by rw [if_neg hc]; exact (decide_eq_false fun q => g q.1).symm)))
      rw [if_neg hc]
      exact decide_eq_decide.mpr ⟨fun x => ⟨g, x⟩, fun x => x.2⟩
  | succ d ih =>
    intro i hi h1 h2
    have hg : i < r.length := by omega
    rw [List.drop_eq_getElem_cons hg] at h1 h2
    refine Ev.step (fun _ => rfl) ?_
    simp only [impl_SketchOk.l1]
    rw [wsucc (by omega), rd_get hg]
    refine ev_pos (by omega) (ev_pos (by omega) (ev_pos (by omega) ?_))
    by_cases g : r[i] > 17
    · exact ev_pos g (ev_some (h2 fun q => by have := q _ List.mem_cons_self; omega).symm)
    · refine ev_neg g (ih (i + 1) (by omega) (fun q => h1 fun x hx => ?_) (fun q => h2 fun p => q fun x hx => p x (List.mem_cons_of_mem _ hx)))
      rcases List.mem_cons.1 hx with rfl | hx
      · omega
      · exact q x hx
theorem impl_sketchOk_l0 (c s mn mx : Int) (h r : List Int) (R : List (List Int)) (v : Bool) (ys : List Int) (hy : ys.length ≤ 100) (d : Nat) : ∀ (i : Nat) (t : Int), i + d = ys.length → 0 ≤ t → t ≤ (i : Int) * 1000000000 →
    ((∀ x ∈ ys.drop i, 0 ≤ x ∧ x ≤ 1000000000) → Ev (fun k => impl_SketchOk.l1 k (t + (ys.drop i).sum) r (r.length : Int) 0 c s mn mx h r R) v) → (¬ (∀ x ∈ ys.drop i, 0 ≤ x ∧ x ≤ 1000000000) → v = false) →
    Ev (fun k => impl_SketchOk.l0 k t ys (ys.length : Int) (i : Int) c s mn mx h r R) v := by
  induction d with
  | zero =>
    intro i t hi h0 ht h1 _
    refine Ev.step (fun _ => rfl) ?_
    simp only [impl_SketchOk.l0]
    refine ev_neg (by omega) ?_
    rw [List.drop_of_length_le (by omega)] at h1
    have := h1 (fun x hx => by cases hx)
    rw [List.sum_nil, Int.add_zero] at this
    exact this
  | succ d ih =>
    intro i t hi h0 ht h1 h2
    have hg : i < ys.length := by omega
    rw [List.drop_eq_getElem_cons hg] at h1 h2
    refine Ev.step (fun _ => rfl) ?_
    simp only [impl_SketchOk.l0]
    rw [wsucc (by omega), rd_get hg]
    refine ev_pos (by omega) (ev_pos (by omega) (ev_pos (by omega) (ev_bind0 (within_is _ _ _) ?_)))
    by_cases g : 0 ≤ ys[i] ∧ ys[i] ≤ 1000000000
    · refine ev_pos (decide_eq_true g) ?_
      rw [w64 (x := t + ys[i]) (by omega) (by omega)]
      refine ih (i + 1) _ (by omega) (by omega) (by omega) (fun q => ?_) (fun q => h2 fun p => q fun x hx => p x (List.mem_cons_of_mem _ hx))
      rw [Int.add_assoc, ← List.sum_cons]
      refine h1 fun x hx => ?_
      rcases List.mem_cons.1 hx with rfl | hx
      · exact g
      · exact q x hx
    · exact ev_neg (by rw [decide_eq_false g]; exact Bool.false_ne_true) (ev_some (h2 fun q => g (q _ List.mem_cons_self)).symm)
theorem impl_sketchOk_ev (c s mn mx : Int) (h r : List Int) (R : List (List Int)) : Ev (fun k => impl_SketchOk.f k c s mn mx h r R) (skOk c s mn mx h r R) := by
  have bad : ¬ SkOk c s mn mx h r R → Ev (fun k => impl_SketchOk.j0 k true c s mn mx h r R) (skOk c s mn mx h r R) := by
    intro hb
    refine Ev.step (fun _ => rfl) ?_
    simp only [impl_SketchOk.j0]
    exact ev_pos (by trivial) (ev_some (skOk_false hb).symm)
  unfold impl_SketchOk.f
  by_cases a1 : h.length = 8
  case neg => exact ev_neg (by omega) (bad fun g => a1 g.2.2.2.2.2.2.2.1.1)
  refine ev_pos (by omega) ?_
  by_cases a2 : r.length = 8
  case neg => exact ev_neg (by omega) (bad fun g => a2 g.2.2.2.2.2.2.2.2.1.1)
  refine ev_pos (by omega) ?_
  by_cases a3 : R.length = 2
  case neg => exact ev_neg (by omega) (bad fun g => a3 g.2.2.2.2.2.1)
  refine ev_pos (by omega) (ev_pos (by omega) ?_)
  by_cases a4 : (rd_L2 R 0).length = 4
  case neg => exact ev_neg (by omega) (bad fun g => a4 g.2.2.2.2.2.2.2.2.2.1.1)
  refine ev_pos (by omega) (ev_pos (by omega) ?_)
  by_cases a5 : (rd_L2 R 1).length = 4
  case neg =>
    have e : (((rd_L2 R 1).length : Int) != 4) = true := by simp; omega
    rw [e]
    exact bad fun g => a5 g.2.2.2.2.2.2.2.2.2.2.1
  have e : (((rd_L2 R 1).length : Int) != 4) = false := by simp; omega
  rw [e]
  clear e bad
  obtain ⟨A, B, rfl⟩ : ∃ A B, R = [A, B] := by
    match R, a3 with
    | [A, B], _ => exact ⟨A, B, rfl⟩
  have eA : rd_L2 [A, B] 0 = A := rfl
  have eB : rd_L2 [A, B] 1 = B := rfl
  rw [eA] at a4
  rw [eB] at a5
  refine Ev.step (fun _ => rfl) ?_
  simp only [impl_SketchOk.j0]
  refine ev_neg (by simp) (Ev.bind (counts_ev c s mn mx h r A B (by omega) (by omega) (by omega) (by omega)) (ev_bind0 rfl (ev_pos ?_ (ev_bind0 rfl ?_))))
  · simp only [List.length_append, List.length_cons, List.length_nil]
    omega
  generalize hys : (((h ++ r) ++ A) ++ B) ++ [c, s, mn, mx] = ys
  have hyl : ys.length = 28 := by
    rw [← hys]
    simp only [List.length_append, List.length_cons, List.length_nil]
    omega
  have hmem : ∀ P : Int → Prop, (∀ x ∈ ys, P x) ↔ (∀ x ∈ h, P x) ∧ (∀ x ∈ r, P x) ∧ (∀ x ∈ A, P x) ∧ (∀ x ∈ B, P x) ∧ P c ∧ P s ∧ P mn ∧ P mx := by
    intro P
    rw [← hys]
    constructor
    · intro q
      exact ⟨fun x hx => q x (by simp [hx]), fun x hx => q x (by simp [hx]), fun x hx => q x (by simp [hx]), fun x hx => q x (by simp [hx]), q c (by simp), q s (by simp), q mn (by simp), q mx (by simp)⟩
    · rintro ⟨q1, q2, q3, q4, q5, q6, q7, q8⟩ x hx
      simp only [List.mem_append, List.mem_cons, List.not_mem_nil, or_false] at hx
      rcases hx with (((hx | hx) | hx) | hx) | rfl | rfl | rfl | rfl
      · exact q1 x hx
      · exact q2 x hx
      · exact q3 x hx
      · exact q4 x hx
      · exact q5
      · exact q6
      · exact q7
      · exact q8
  refine impl_sketchOk_l0 c s mn mx h r [A, B] _ ys (by omega) 28 0 0 (by omega) (by omega) (by omega) (fun q => ?_) (fun q => skOk_false fun g => q ?_)
  · rw [List.drop_zero] at q
    rw [List.drop_zero, Int.zero_add]
    have qq := (hmem _).1 q
    refine impl_sketchOk_l1 c s mn mx h r [A, B] _ ys.sum (by omega) 8 0 (by omega) (fun p => ?_) (fun p => skOk_false fun g => p fun x hx => ?_)
    · rw [List.drop_zero] at p
      by_cases hc : c = 0
      · rw [if_pos hc]
        by_cases hz : ys.sum = 0
        · have z := (hmem _).1 (sum_zero ys q hz)
          have e : (ys.sum == 0) = true := by simpa using hz
          rw [e]
          refine skOk_true.2 ⟨by omega, by omega, by omega, by omega, by omega, rfl, fun _ => ⟨z.2.2.2.2.2.1, z.2.2.2.2.2.2.2⟩, ⟨a1, fun x hx => ⟨qq.1 x hx, fun _ => z.1 x hx⟩⟩, ⟨a2, fun x hx => ⟨⟨(qq.2.1 x hx).1, p x hx⟩, fun _ => z.2.1 x hx⟩⟩, ⟨a4, fun x hx => ⟨qq.2.2.1 x hx, fun _ => z.2.2.1 x hx⟩⟩, ⟨a5, fun x hx => ⟨qq.2.2.2.1 x hx, fun _ => z.2.2.2.1 x hx⟩⟩⟩
        · have e : (ys.sum == 0) = false := by simpa using hz
          rw [e]
          refine skOk_false fun g => hz (zero_sum ys ((hmem _).2 ?_))
          obtain ⟨g1, g2, g3, g4, g5, g6, g7, g8, g9, g10, g11⟩ := g
          have := g7 hc
          exact ⟨fun x hx => (g8.2 x hx).2 hc, fun x hx => (g9.2 x hx).2 hc, fun x hx => (g10.2 x hx).2 hc, fun x hx => (g11.2 x hx).2 hc, hc, this.1, by omega, this.2⟩
      · rw [if_neg hc]
        by_cases hm : mn ≤ mx ∧ mx ≤ 1000000
        · rw [decide_eq_true hm]
          refine skOk_true.2 ⟨qq.2.2.2.2.1, qq.2.2.2.2.2.1, by omega, by omega, hm.1, rfl, fun z => absurd z hc, ⟨a1, fun x hx => ⟨qq.1 x hx, fun z => absurd z hc⟩⟩, ⟨a2, fun x hx => ⟨⟨(qq.2.1 x hx).1, p x hx⟩, fun z => absurd z hc⟩⟩, ⟨a4, fun x hx => ⟨qq.2.2.1 x hx, fun z => absurd z hc⟩⟩, ⟨a5, fun x hx => ⟨qq.2.2.2.1 x hx, fun z => absurd z hc⟩⟩⟩
        · rw [decide_eq_false hm]
          exact skOk_false fun g => hm ⟨g.2.2.2.2.1, g.2.2.2.1.2⟩
    · rw [List.drop_zero] at hx
      exact (g.2.2.2.2.2.2.2.2.1.2 x hx).1.2
  · rw [List.drop_zero]
    obtain ⟨g1, g2, g3, g4, g5, g6, g7, g8, g9, g10, g11⟩ := g
    exact (hmem _).2 ⟨fun x hx => (g8.2 x hx).1, fun x hx => by have := (g9.2 x hx).1; omega, fun x hx => (g10.2 x hx).1, fun x hx => (g11.2 x hx).1, g1, g2, by omega, by omega⟩
noncomputable def entryOk (ke wi : Int) (ids : List S70) (c s mn mx : Int) (h r : List Int) (R : List (List Int)) : Bool :=
  decide (0 ≤ ke ∧ ke ≤ 4) && (decide (0 ≤ wi ∧ wi ≤ 20) && (decide ((ids.length : Int) > 0) && (setOk ids && skOk c s mn mx h r R)))
theorem spec_entryOk_ev (ke wi : Int) (ids : List S70) (c s mn mx : Int) (h r : List Int) (R : List (List Int)) (hI : ids.length ≤ 1048576) : Ev (fun k => spec_EntryOk.f k ke wi ids c s mn mx h r R) (entryOk ke wi ids c s mn mx h r R) := by
  unfold spec_EntryOk.f entryOk spec_l6Place.f
  rw [l1In_is, l1In_is, Option.bind_some]
  cases decide (0 ≤ ke ∧ ke ≤ 4)
  · exact ev_bind0 rfl (ev_neg (by simp) (ev_some rfl))
  cases decide (0 ≤ wi ∧ wi ≤ 20)
  · exact ev_bind0 rfl (ev_neg (by simp) (ev_some rfl))
  refine ev_bind0 rfl (ev_pos rfl ?_)
  by_cases g : (ids.length : Int) > 0
  · rw [decide_eq_true g]
    refine ev_pos g (Ev.bind (spec_setOk_ev ids hI) ?_)
    cases setOk ids
    · exact ev_neg (by simp) (ev_some rfl)
    · exact ev_pos rfl (Ev.bind (spec_sketchOk_ev c s mn mx h r R) (ev_some (by simp)))
  · rw [decide_eq_false g]
    exact ev_neg g (ev_some rfl)
theorem impl_entryOk_ev (ke wi : Int) (ids : List S70) (c s mn mx : Int) (h r : List Int) (R : List (List Int)) (hI : ids.length ≤ 1048576) : Ev (fun k => impl_EntryOk.f k ke wi ids c s mn mx h r R) (entryOk ke wi ids c s mn mx h r R) := by
  unfold impl_EntryOk.f entryOk
  refine ev_bind0 (within_is _ _ _) ?_
  cases decide (0 ≤ ke ∧ ke ≤ 4)
  · exact ev_neg (by simp) (ev_some rfl)
  refine ev_pos rfl (ev_bind0 (within_is _ _ _) ?_)
  cases decide (0 ≤ wi ∧ wi ≤ 20)
  · exact ev_neg (by simp) (ev_some rfl)
  refine ev_pos rfl (Ev.bind (impl_setOk_ev ids hI) ?_)
  cases setOk ids
  · exact ev_neg (by simp) (ev_some (by simp))
  refine ev_pos rfl ?_
  by_cases g : (ids.length : Int) > 0
  · rw [decide_eq_true g]
    exact ev_pos g (Ev.bind (impl_sketchOk_ev c s mn mx h r R) (ev_some (by simp)))
  · rw [decide_eq_false g]
    exact ev_neg g (ev_some rfl)
theorem impl_add_is {a b : Int} (ha : 0 ≤ a ∧ a ≤ 1000000000) (hb : 0 ≤ b ∧ b ≤ 1000000000) : impl_Add.f a b = some (sadd a b) := by
  unfold impl_Add.f impl_limited.f mn mx
  have e : ∀ x : Int, 0 ≤ x ∧ x ≤ 1000000000 → (if 1000000000 < (if x < 0 then 0 else x) then 1000000000 else (if x < 0 then 0 else x)) = x := by
    intro x hx
    repeat' split
    all_goals omega
  rw [e a ha, e b hb, Option.bind_some, Option.bind_some, w64 (x := a + b) (by omega) (by omega)]
  unfold sadd
  congr 1
  repeat' split
  all_goals omega
theorem spec_add_is {a b : Int} (ha : 0 ≤ a ∧ a ≤ 1000000000) (hb : 0 ≤ b ∧ b ≤ 1000000000) : spec_Add.f a b = some (sadd a b) := by
  have c : ∀ x : Int, 0 ≤ x ∧ x ≤ 1000000000 → spec_l2Clip.f x 1000000000 = some x := by
    intro x hx
    unfold spec_l2Clip.f spec_l1Min.f spec_l1Max.f
    by_cases h : x < 1000000000
    · simp only [if_pos h, Option.bind_some]
      split
      · congr 1; omega
      · rfl
    · simp only [if_neg h, Option.bind_some]
      rw [if_neg (by omega), show x = 1000000000 by omega]
      rfl
  unfold spec_Add.f spec_l1Min.f
  rw [c a ha, c b hb, Option.bind_some, Option.bind_some, w64 (x := a + b) (by omega) (by omega)]
  unfold sadd
  by_cases h : a + b < 1000000000
  · rw [if_pos h, if_neg (by omega)]
    rfl
  · rw [if_neg h]
    split
    · rfl
    · simp only [Option.bind_some]
      congr 1
      omega
theorem two_rows {R : List (List Int)} (h : R.length = 2) : ∃ p q, R = [p, q] := by
  match R, h with
  | [p, q], _ => exact ⟨p, q, rfl⟩
theorem skOk_su {c s lo hi : Int} {h r p q : List Int} (ok : SkOk c s lo hi h r [p, q]) : Su.Ok ⟨c, s, lo, hi, h, r, p, q⟩ := by
  obtain ⟨h1, h2, h3, h4, h5, h6, h7, h8, h9, h10, h11⟩ := ok
  exact ⟨h1, h2, h3, h4, h5, h7, h8, h9, h10, h11⟩
theorem su_skOk {u : Su} (ok : u.Ok) : SkOk u.c u.s u.mn u.mx u.h u.r [u.p, u.q] := ⟨ok.hc, ok.hs, ok.hmn, ok.hmx, ok.hle, rfl, ok.hz, ok.hh, ok.hr, ok.hp, ok.hq⟩
theorem lok_getD {xs : List Int} {n : Nat} {most : Int} {z : Prop} (h : LOk xs n most z) {i : Nat} (hi : i < n) : 0 ≤ xs.getD i 0 ∧ xs.getD i 0 ≤ most := by
  have h1 : i < xs.length := by rw [h.1]; exact hi
  rw [List.getD_eq_getElem?_getD, List.getElem?_eq_getElem h1]
  exact (h.2 _ (List.getElem_mem h1)).1
def suOut (u : Su) (b : Bool) : Int × Int × Int × Int × List Int × List Int × List (List Int) × Bool := (u.c, u.s, u.mn, u.mx, u.h, u.r, [u.p, u.q], b)
theorem su_lens {u : Su} (h : u.Ok) : u.h.length ≤ 1048576 ∧ u.r.length ≤ 1048576 ∧ [u.p, u.q].length ≤ 1048576 ∧ ∀ x ∈ [u.p, u.q], x.length ≤ 1048576 := by
  have h1 := h.hh.1
  have h2 := h.hr.1
  have h3 := h.hp.1
  have h4 := h.hq.1
  refine ⟨by omega, by omega, by simp, fun x hx => ?_⟩
  simp only [List.mem_cons, List.not_mem_nil, or_false] at hx
  rcases hx with rfl | rfl <;> omega
theorem impl_copy_at (c s lo hi : Int) (h r : List Int) (R : List (List Int)) (hR : R.length ≤ 1048576) (hx : ∀ x ∈ R, x.length ≤ 1048576) (d : Nat) : ∀ i : Nat, i + d = R.length →
    Ev (fun k => impl_copySketch.l0 k R (R.length : Int) (i : Int) c s lo hi h r (R.take i)) (c, s, lo, hi, h, r, R) := by
  induction d with
  | zero =>
    intro i hi'
    refine Ev.step (fun _ => rfl) ?_
    simp only [impl_copySketch.l0]
    exact ev_neg (by omega) (ev_some (by rw [show i = R.length by omega, List.take_length]))
  | succ d ih =>
    intro i hi'
    refine Ev.step (fun _ => rfl) ?_
    simp only [impl_copySketch.l0]
    have hiR : i < R.length := by omega
    have hl := hx _ (List.getElem_mem hiR)
    rw [wsucc (by omega), rdR_get hiR]
    refine ev_pos (by omega) (ev_pos (by omega) (ev_pos (by omega) (ev_bind0 (a := R[i]) (by unfold impl_copyInts.f; rw [if_pos (by simp; omega), List.nil_append]) (ev_pos (by simp; omega) ?_))))
    rw [← List.take_succ_eq_append_getElem hiR]
    exact ih (i + 1) (by omega)
theorem impl_copy_ev (c s lo hi : Int) (h r : List Int) (R : List (List Int)) (hh : h.length ≤ 1048576) (hr : r.length ≤ 1048576) (hR : R.length ≤ 1048576) (hx : ∀ x ∈ R, x.length ≤ 1048576) :
    Ev (fun k => impl_copySketch.f k c s lo hi h r R) (c, s, lo, hi, h, r, R) := by
  unfold impl_copySketch.f
  refine ev_bind0 (a := h) (by unfold impl_copyInts.f; rw [if_pos (by simp; omega), List.nil_append]) (ev_bind0 (a := r) (by unfold impl_copyInts.f; rw [if_pos (by simp; omega), List.nil_append]) ?_)
  have := impl_copy_at c s lo hi h r R hR hx R.length 0 (by omega)
  simpa using this
theorem zip_getD (f : Int → Int → Int) : ∀ (xs ys : List Int) (i : Nat), i < xs.length → i < ys.length → (List.zipWith f xs ys).getD i 0 = f (xs.getD i 0) (ys.getD i 0) := by
  intro xs ys i h1 h2
  simp only [List.getD_eq_getElem?_getD]
  rw [List.getElem?_eq_getElem h1, List.getElem?_eq_getElem h2, List.getElem?_eq_getElem (by simp; omega)]
  simp
theorem mx_hi (a b : Int) : mx a b = hi2 a b := by
  unfold mx hi2
  repeat' split
  all_goals omega
theorem impl_merge_ev {a b : Su} (ha : a.Ok) (hb : b.Ok) : Ev (fun k => impl_Merge.f k a.c a.s a.mn a.mx a.h a.r [a.p, a.q] b.c b.s b.mn b.mx b.h b.r [b.p, b.q]) (suOut (Su.mrg a b) true) := by
  obtain ⟨b1, b2, b3, b4⟩ := su_lens ha
  have G : impl_Merge.G a.c a.s a.h a.r [a.p, a.q] b.c b.s b.h b.r [b.p, b.q] := by
    have hz : ∀ (xs ys : List Int) (n : Nat) (z z' : Prop), LOk xs n 1000000000 z → LOk ys n 1000000000 z' → ∀ i, i < n → impl_Add.f (xs.getD i 0) (ys.getD i 0) = some ((List.zipWith sadd xs ys).getD i 0) := by
      intro xs ys n z z' h1 h2 i hi
      rw [zip_getD _ _ _ _ (by rw [h1.1]; exact hi) (by rw [h2.1]; exact hi)]
      exact impl_add_is (lok_getD h1 hi) (lok_getD h2 hi)
    refine ⟨⟨ha.hh.1, ha.hr.1, rfl, hb.hh.1, hb.hr.1, rfl⟩, impl_add_is ha.hc hb.hc, impl_add_is ha.hs hb.hs, hz _ _ _ _ _ ha.hh hb.hh, fun i hi => ?_, fun i hi => ?_⟩
    · rw [zip_getD _ _ _ _ (by rw [ha.hr.1]; exact hi) (by rw [hb.hr.1]; exact hi)]
      exact mx_hi _ _
    · match i, hi with
      | 0, _ => exact ⟨by show (List.zipWith sadd a.p b.p).length = 4; simp [ha.hp.1, hb.hp.1], ha.hp.1, hb.hp.1, hz _ _ _ _ _ ha.hp hb.hp⟩
      | 1, _ => exact ⟨by show (List.zipWith sadd a.q b.q).length = 4; simp [ha.hq.1, hb.hq.1], ha.hq.1, hb.hq.1, hz _ _ _ _ _ ha.hq hb.hq⟩
  have ea := impl_sketchOk_ev a.c a.s a.mn a.mx a.h a.r [a.p, a.q]
  have eb := impl_sketchOk_ev b.c b.s b.mn b.mx b.h b.r [b.p, b.q]
  rw [skOk_true.2 (su_skOk ha)] at ea
  rw [skOk_true.2 (su_skOk hb)] at eb
  unfold impl_Merge.f
  refine Ev.bind ea (ev_pos (by trivial) (Ev.bind eb (ev_pos (by trivial) (Ev.bind (impl_copy_ev a.c a.s a.mn a.mx a.h a.r [a.p, a.q] b1 b2 b3 b4) (ev_pos ⟨⟨rfl, rfl, rfl, rfl, rfl, rfl, rfl⟩, G⟩ (ev_some ?_))))))
  have e1 : impl_Merge.lo a.c a.mn b.c b.mn = if a.c = 0 then b.mn else if b.c = 0 then a.mn else lo2 a.mn b.mn := by
    have := Su.mn0 ha
    have := Su.mn0 hb
    have := ha.hc
    have := hb.hc
    unfold impl_Merge.lo lo2
    repeat' split
    all_goals omega
  rw [e1, mx_hi]
  rfl
theorem spec_sum_at (xs ys : List Int) (n : Nat) (z z' : Prop) (h1 : LOk xs n 1000000000 z) (h2 : LOk ys n 1000000000 z') (hn : n ≤ 1048576) (d : Nat) : ∀ i : Nat, i + d = n →
    Ev (fun k => spec_l3Sum.l0 k xs ys ((List.zipWith sadd xs ys).take i) (i : Int)) (List.zipWith sadd xs ys) := by
  have l1 := h1.1
  have l2 := h2.1
  have lz : (List.zipWith sadd xs ys).length = n := by simp [l1, l2]
  induction d with
  | zero =>
    intro i hi
    refine Ev.step (fun _ => rfl) ?_
    simp only [spec_l3Sum.l0]
    exact ev_neg (by omega) (ev_some (by rw [List.take_of_length_le (by omega)]))
  | succ d ih =>
    intro i hi
    refine Ev.step (fun _ => rfl) ?_
    simp only [spec_l3Sum.l0]
    have hlt : i < n := by omega
    rw [rd_nat, rd_nat, wsucc (by omega)]
    refine ev_pos (by omega) (ev_pos (by omega) (ev_pos (by omega) (ev_bind0 (spec_add_is (lok_getD h1 hlt) (lok_getD h2 hlt)) (ev_pos (by rw [List.length_take]; omega) ?_))))
    have e : (List.zipWith sadd xs ys).take i ++ [sadd (xs.getD i 0) (ys.getD i 0)] = (List.zipWith sadd xs ys).take (i + 1) := by
      rw [List.take_succ_eq_append_getElem (by omega), ← zip_getD sadd xs ys i (by omega) (by omega), List.getD_eq_getElem?_getD, List.getElem?_eq_getElem (by omega)]
      rfl
    rw [e]
    exact ih (i + 1) (by omega)
theorem spec_sum_ev (xs ys : List Int) (n : Nat) (z z' : Prop) (h1 : LOk xs n 1000000000 z) (h2 : LOk ys n 1000000000 z') (hn : n ≤ 1048576) : Ev (fun k => spec_l3Sum.f k xs ys) (List.zipWith sadd xs ys) := by
  unfold spec_l3Sum.f
  exact spec_sum_at xs ys n z z' h1 h2 hn n 0 (by omega)
theorem spec_max_is (x y : Int) : spec_l1Max.f x y = some (hi2 x y) := by
  unfold spec_l1Max.f hi2
  split <;> rfl
theorem spec_min_is (x y : Int) : spec_l1Min.f x y = some (lo2 x y) := by
  unfold spec_l1Min.f lo2
  split <;> rfl
theorem spec_l3Merge_ev {a b : Su} (ha : a.Ok) (hb : b.Ok) : Ev (fun k => spec_l3Merge.f k a.c a.s a.mn a.mx a.h a.r [a.p, a.q] b.c b.s b.mn b.mx b.h b.r [b.p, b.q])
    (sadd a.c b.c, sadd a.s b.s, (if a.c = 0 then b.mn else if b.c = 0 then a.mn else lo2 a.mn b.mn), hi2 a.mx b.mx, List.zipWith sadd a.h b.h, List.zipWith hi2 a.r b.r, [List.zipWith sadd a.p b.p, List.zipWith sadd a.q b.q]) := by
  have l1 := ha.hh.1
  have l2 := hb.hh.1
  have l3 := ha.hr.1
  have l4 := hb.hr.1
  have l5 := ha.hp.1
  have l6 := hb.hp.1
  have l7 := ha.hq.1
  have l8 := hb.hq.1
  unfold spec_l3Merge.f
  refine ev_bind0 (spec_add_is ha.hc hb.hc) (ev_bind0 (spec_add_is ha.hs hb.hs) (ev_bind0 (spec_min_is _ _) (ev_bind0 (spec_max_is _ _) (Ev.bind (spec_sum_ev _ _ 8 _ _ ha.hh hb.hh (by omega)) (Ev.bind (a := List.zipWith sadd a.p b.p) (spec_sum_ev a.p b.p 4 _ _ ha.hp hb.hp (by omega)) (Ev.bind (a := List.zipWith sadd a.q b.q) (spec_sum_ev a.q b.q 4 _ _ ha.hq hb.hq (by omega)) (ev_pos ?_ (ev_some ?_))))))))
  · refine ⟨⟨l1, l3, rfl, l2, l4, rfl⟩, ⟨by rw [List.length_zipWith]; omega, by rw [List.length_zipWith]; omega, by rw [List.length_zipWith]; omega⟩, by rw [List.length_zipWith]; omega, fun i hi => ?_⟩
    rw [spec_max_is, zip_getD hi2 _ _ i (by omega) (by omega)]
  · have m1 := Su.mn0 ha
    have m2 := Su.mn0 hb
    have e : spec_l3Merge.lo a.c a.mn b.c b.mn (lo2 a.mn b.mn) = (if a.c = 0 then b.mn else if b.c = 0 then a.mn else lo2 a.mn b.mn) := by
      unfold spec_l3Merge.lo
      by_cases e1 : a.c = 0
      · by_cases e2 : b.c = 0
        · rw [if_pos e2, if_pos e1, m1 e1, m2 e2]
        · rw [if_neg e2, if_pos e1, if_pos e1]
      · rw [if_neg e1, if_neg e1]
    rw [e]
noncomputable def mrgV (c s lo hi : Int) (h r : List Int) (R : List (List Int)) (c' s' lo' hi' : Int) (h' r' : List Int) (R' : List (List Int)) : Int × Int × Int × Int × List Int × List Int × List (List Int) × Bool :=
  if skOk c s lo hi h r R = true ∧ skOk c' s' lo' hi' h' r' R' = true then suOut (Su.mrg ⟨c, s, lo, hi, h, r, rd_L2 R 0, rd_L2 R 1⟩ ⟨c', s', lo', hi', h', r', rd_L2 R' 0, rd_L2 R' 1⟩) true else (0, 0, 0, 0, [], [], [], false)
theorem impl_mrg_ev (c s lo hi : Int) (h r : List Int) (R : List (List Int)) (c' s' lo' hi' : Int) (h' r' : List Int) (R' : List (List Int)) : Ev (fun k => impl_Merge.f k c s lo hi h r R c' s' lo' hi' h' r' R') (mrgV c s lo hi h r R c' s' lo' hi' h' r' R') := by
  have ea := impl_sketchOk_ev c s lo hi h r R
  have eb := impl_sketchOk_ev c' s' lo' hi' h' r' R'
  unfold mrgV
  cases oa : skOk c s lo hi h r R with
  | false =>
    rw [oa] at ea
    rw [if_neg (by simp)]
    unfold impl_Merge.f
    exact Ev.bind ea (ev_neg (by simp) (ev_some rfl))
  | true =>
    cases ob : skOk c' s' lo' hi' h' r' R' with
    | false =>
      rw [oa] at ea
      rw [ob] at eb
      rw [if_neg (by simp)]
      unfold impl_Merge.f
      exact Ev.bind ea (ev_pos (by trivial) (Ev.bind eb (ev_neg (by simp) (ev_some rfl))))
    | true =>
      have ha := skOk_true.1 oa
      have hb := skOk_true.1 ob
      obtain ⟨p, q, rfl⟩ := two_rows ha.2.2.2.2.2.1
      obtain ⟨p', q', rfl⟩ := two_rows hb.2.2.2.2.2.1
      rw [if_pos ⟨rfl, rfl⟩]
      exact impl_merge_ev (a := ⟨c, s, lo, hi, h, r, p, q⟩) (b := ⟨c', s', lo', hi', h', r', p', q'⟩) (skOk_su ha) (skOk_su hb)
theorem mrgV_lens (c s lo hi : Int) (h r : List Int) (R : List (List Int)) (c' s' lo' hi' : Int) (h' r' : List Int) (R' : List (List Int)) {c1 s1 lo1 hi1 : Int} {h1 r1 : List Int} {R1 : List (List Int)} {t : Bool} (e : mrgV c s lo hi h r R c' s' lo' hi' h' r' R' = (c1, s1, lo1, hi1, h1, r1, R1, t)) (hx : ∀ x ∈ R, x.length ≤ 1048576) :
    h1.length ≤ h.length ∧ r1.length ≤ r.length ∧ R1.length ≤ R.length ∧ lensII R1 ≤ lensII R ∧ ∀ x ∈ R1, x.length ≤ 1048576 := by
  unfold mrgV at e
  by_cases ok : skOk c s lo hi h r R = true ∧ skOk c' s' lo' hi' h' r' R' = true
  · rw [if_pos ok] at e
    obtain ⟨p, q, rfl⟩ := two_rows (skOk_true.1 ok.1).2.2.2.2.2.1
    simp only [suOut, Su.mrg, Prod.mk.injEq] at e
    obtain ⟨_, _, _, _, rfl, rfl, rfl, _⟩ := e
    have hp := hx p (by simp)
    have hq := hx q (by simp)
    have r0 : rd_L2 [p, q] 0 = p := rfl
    have r1 : rd_L2 [p, q] 1 = q := rfl
    simp only [r0, r1, lensII, List.length_cons, List.length_nil, List.length_zipWith, List.mem_cons, List.not_mem_nil, or_false, forall_eq_or_imp, forall_eq]
    omega
  · rw [if_neg ok] at e
    simp only [Prod.mk.injEq] at e
    obtain ⟨_, _, _, _, rfl, rfl, rfl, _⟩ := e
    exact ⟨by simp, by simp, by simp, by simp [lensII], by simp⟩
theorem heldEntry_ev (ke wi c s lo hi : Int) (a n nh nr : Nat) (R : List (List Int)) (ha : 0 ≤ a) (hb : (a : Int) + 2 * n + (nh : Int) + (nr : Int) + (lensII R : Nat) ≤ 1073741824) (h1 : nh ≤ 1048576) (h2 : nr ≤ 1048576) (hR : R.length ≤ 1048576) (hl : ∀ l ∈ R, l.length ≤ 1048576) :
    Ev (fun k => laws_heldEntry.f k ke wi (msp a n) c s lo hi (marksI ((a + 2 * n : Nat) : Int) nh) (marksI (((a + 2 * n : Nat) : Int) + (nh : Int)) nr) (marksII (((a + 2 * n : Nat) : Int) + (nh : Int) + (nr : Int)) R) (a : Int)) (((a + 2 * n : Nat) : Int) + (nh : Int) + (nr : Int) + (lensII R : Nat)) := by
  unfold laws_heldEntry.f
  exact Ev.bind (heldSpanS_ev a n (by omega)) (ev_neg (by omega) (Ev.bind (heldSketch_ev c s lo hi ((a + 2 * n : Nat) : Int) nh nr R (by omega) (by omega) h1 h2 hR hl) (ev_neg (by omega) (ev_some rfl))))
noncomputable def addE (ke wi : Int) (l : List S70) (c s lo hi : Int) (h r : List Int) (R : List (List Int)) (ke' wi' : Int) (l' : List S70) (c' s' lo' hi' : Int) (h' r' : List Int) (R' : List (List Int)) : Int × Int × List S70 × Int × Int × Int × Int × List Int × List Int × List (List Int) × Bool :=
  if entryOk ke wi l c s lo hi h r R = true ∧ entryOk ke' wi' l' c' s' lo' hi' h' r' R' = true ∧ ke = ke' ∧ wi = wi' ∧ setApart l l' = true then
    (ke, wi, joinL l l', (mrgV c s lo hi h r R c' s' lo' hi' h' r' R').1, (mrgV c s lo hi h r R c' s' lo' hi' h' r' R').2.1, (mrgV c s lo hi h r R c' s' lo' hi' h' r' R').2.2.1, (mrgV c s lo hi h r R c' s' lo' hi' h' r' R').2.2.2.1, (mrgV c s lo hi h r R c' s' lo' hi' h' r' R').2.2.2.2.1, (mrgV c s lo hi h r R c' s' lo' hi' h' r' R').2.2.2.2.2.1, (mrgV c s lo hi h r R c' s' lo' hi' h' r' R').2.2.2.2.2.2.1, true)
  else (0, 0, [], 0, 0, 0, 0, [], [], [], false)
theorem entryOk_skOk {ke wi : Int} {ids : List S70} {c s mn mx : Int} {h r : List Int} {R : List (List Int)} (e : entryOk ke wi ids c s mn mx h r R = true) : skOk c s mn mx h r R = true := by
  unfold entryOk at e
  simp only [Bool.and_eq_true] at e
  simp [e]
theorem setApart_ok {a b : List S70} (e : setApart a b = true) : setOk a = true ∧ setOk b = true := by
  unfold setApart at e
  simp only [Bool.and_eq_true] at e
  exact ⟨e.1.1, e.1.2⟩
theorem spec_l3Mrg_ev {c s lo hi : Int} {h r : List Int} {R : List (List Int)} {c' s' lo' hi' : Int} {h' r' : List Int} {R' : List (List Int)} (oa : skOk c s lo hi h r R = true) (ob : skOk c' s' lo' hi' h' r' R' = true) :
    Ev (fun k => spec_l3Merge.f k c s lo hi h r R c' s' lo' hi' h' r' R') ((mrgV c s lo hi h r R c' s' lo' hi' h' r' R').1, (mrgV c s lo hi h r R c' s' lo' hi' h' r' R').2.1, (mrgV c s lo hi h r R c' s' lo' hi' h' r' R').2.2.1, (mrgV c s lo hi h r R c' s' lo' hi' h' r' R').2.2.2.1, (mrgV c s lo hi h r R c' s' lo' hi' h' r' R').2.2.2.2.1, (mrgV c s lo hi h r R c' s' lo' hi' h' r' R').2.2.2.2.2.1, (mrgV c s lo hi h r R c' s' lo' hi' h' r' R').2.2.2.2.2.2.1) := by
  have ha := skOk_true.1 oa
  have hb := skOk_true.1 ob
  obtain ⟨p, q, rfl⟩ := two_rows ha.2.2.2.2.2.1
  obtain ⟨p', q', rfl⟩ := two_rows hb.2.2.2.2.2.1
  unfold mrgV
  rw [if_pos ⟨oa, ob⟩]
  exact spec_l3Merge_ev (a := ⟨c, s, lo, hi, h, r, p, q⟩) (b := ⟨c', s', lo', hi', h', r', p', q'⟩) (skOk_su ha) (skOk_su hb)
theorem szEntry_all (ke wi : Int) (ids : List S113) (c s mn mx : Int) (h r : List Int) (R : List (List Int)) (a : Int) (h0 : 0 ≤ a) (h1 : a ≤ 1048576) (hI : ids.length ≤ 9223372036854775807) (hh : h.length ≤ 9223372036854775807) (hr : r.length ≤ 9223372036854775807) (hR : R.length ≤ 9223372036854775807) (hx : ∀ x ∈ R, x.length ≤ 9223372036854775807) :
    ∃ v, Ev (fun k => laws_szEntry.f k ke wi ids c s mn mx h r R a) v ∧ v ≤ a ∧ (0 ≤ v → (h.length ≤ 1048576 ∧ r.length ≤ 1048576 ∧ R.length ≤ 1048576 ∧ ∀ x ∈ R, x.length ≤ 1048576) ∧ (ids.length : Int) + h.length + r.length + lensII R + v ≤ a) := by
  by_cases g0 : a < ids.length
  · refine ⟨-1, ?_, by omega, fun h => by omega⟩
    unfold laws_szEntry.f
    refine ev_bind0 (szSpanS_is ids a h0 h1 hI) ?_
    rw [if_pos g0]
    exact ev_pos (by omega) (ev_some rfl)
  obtain ⟨v, hv, hle, hall⟩ := szSketch_all c s mn mx h r R (a - ids.length) (by omega) (by omega) hh hr hR hx
  by_cases g : v < 0
  · refine ⟨-1, ?_, by omega, fun h => by omega⟩
    unfold laws_szEntry.f
    refine ev_bind0 (szSpanS_is ids a h0 h1 hI) ?_
    rw [if_neg g0]
    exact ev_neg (by omega) (Ev.bind hv (ev_pos g (ev_some rfl)))
  · refine ⟨v, ?_, by omega, fun z => ⟨(hall z).1, by have := (hall z).2; omega⟩⟩
    unfold laws_szEntry.f
    refine ev_bind0 (szSpanS_is ids a h0 h1 hI) ?_
    rw [if_neg g0]
    exact ev_neg (by omega) (Ev.bind hv (ev_neg g (ev_some rfl)))
theorem addE_lens (ke wi : Int) (l : List S70) (c s lo hi : Int) (h r : List Int) (R : List (List Int)) (ke' wi' : Int) (l' : List S70) (c' s' lo' hi' : Int) (h' r' : List Int) (R' : List (List Int)) {e1 e2 c1 s1 lo1 hi1 : Int} {l1 : List S70} {h1 r1 : List Int} {R1 : List (List Int)} {t : Bool}
    (e : addE ke wi l c s lo hi h r R ke' wi' l' c' s' lo' hi' h' r' R' = (e1, e2, l1, c1, s1, lo1, hi1, h1, r1, R1, t)) (hx : ∀ x ∈ R, x.length ≤ 1048576) :
    l1.length ≤ l.length + l'.length ∧ h1.length ≤ h.length ∧ r1.length ≤ r.length ∧ R1.length ≤ R.length ∧ lensII R1 ≤ lensII R ∧ ∀ x ∈ R1, x.length ≤ 1048576 := by
  unfold addE at e
  split at e
  · simp only [Prod.mk.injEq] at e
    obtain ⟨_, _, rfl, _, _, _, _, rfl, rfl, rfl, _⟩ := e
    obtain ⟨m1, m2, m3, m4, m5, m6, m7, m8, em⟩ : ∃ m1 m2 m3 m4 m5 m6 m7 m8, mrgV c s lo hi h r R c' s' lo' hi' h' r' R' = (m1, m2, m3, m4, m5, m6, m7, m8) := ⟨_, _, _, _, _, _, _, _, rfl⟩
    have := mrgV_lens c s lo hi h r R c' s' lo' hi' h' r' R' em hx
    rw [em]
    exact ⟨join_len l' l, this⟩
  · simp only [Prod.mk.injEq] at e
    obtain ⟨_, _, rfl, _, _, _, _, rfl, rfl, rfl, _⟩ := e
    simp [lensII]
theorem specA_of (ke wi : Int) (l : List S70) (c s lo hi : Int) (h r : List Int) (R : List (List Int)) (ke' wi' : Int) (l' : List S70) (c' s' lo' hi' : Int) (h' r' : List Int) (R' : List (List Int)) (hl : l.length ≤ 1048576) (hl' : l'.length ≤ 1048576) {e1 e2 c1 s1 lo1 hi1 : Int} {l1 : List S70} {g1 r1 : List Int} {R1 : List (List Int)} {t : Bool}
    (ee : addE ke wi l c s lo hi h r R ke' wi' l' c' s' lo' hi' h' r' R' = (e1, e2, l1, c1, s1, lo1, hi1, g1, r1, R1, t)) : SpecA ke wi l c s lo hi h r R ke' wi' l' c' s' lo' hi' h' r' R' e1 e2 l1 c1 s1 lo1 hi1 g1 r1 R1 t := by
  intro w q x y z q' x' y' z' u u'
  obtain ⟨K1, k1⟩ := spec_entryOk_ev ke wi l c s lo hi h r R hl
  obtain ⟨K2, k2⟩ := spec_entryOk_ev ke' wi' l' c' s' lo' hi' h' r' R' hl'
  obtain ⟨K3, k3⟩ := spec_setApart_ev l l' hl hl'
  by_cases h1 : entryOk ke wi l c s lo hi h r R = true
  · rw [h1] at k1
    by_cases h2 : entryOk ke' wi' l' c' s' lo' hi' h' r' R' = true
    · rw [h2] at k2
      by_cases h3 : ke = ke'
      · by_cases h4 : wi = wi'
        · by_cases h5 : setApart l l' = true
          · rw [h5] at k3
            rw [addE, if_pos ⟨h1, h2, h3, h4, h5⟩] at ee
            simp only [Prod.mk.injEq] at ee
            obtain ⟨rfl, rfl, rfl, rfl, rfl, rfl, rfl, rfl, rfl, rfl, rfl⟩ := ee
            subst h3 h4
            obtain ⟨n1, b1⟩ := (setOk_iff l).1 (setApart_ok h5).1
            obtain ⟨n2, b2⟩ := (setOk_iff l').1 (setApart_ok h5).2
            obtain ⟨K4, k4⟩ := spec_join_ev l l' b1 n1 hl b2 n2.le hl'
            obtain ⟨K5, k5⟩ := spec_l3Mrg_ev (entryOk_skOk h1) (entryOk_skOk h2)
            exact spec_EntryAdd.w6 (K1 + K2 + K3 + K4 + K5) _ _ _ _ _ _ _ _ _ _ _ _ _ _ _ _ _ _ ⟨u⟩ ⟨u'⟩ ⟨k1 _ (by omega)⟩ ⟨k2 _ (by omega)⟩ ⟨k3 _ (by omega)⟩ ⟨k4 _ (by omega)⟩ ⟨k5 _ (by omega)⟩
          · rw [addE, if_neg (fun e => h5 e.2.2.2.2)] at ee
            simp only [Prod.mk.injEq] at ee
            obtain ⟨rfl, rfl, rfl, rfl, rfl, rfl, rfl, rfl, rfl, rfl, rfl⟩ := ee
            rw [Bool.not_eq_true] at h5
            rw [h5] at k3
            subst h3 h4
            exact spec_EntryAdd.w5 (K1 + K2 + K3) _ _ _ _ _ _ _ _ _ _ ⟨u⟩ ⟨u'⟩ ⟨k1 _ (by omega)⟩ ⟨k2 _ (by omega)⟩ ⟨k3 _ (by omega)⟩
        · rw [addE, if_neg (fun e => h4 e.2.2.2.1)] at ee
          simp only [Prod.mk.injEq] at ee
          obtain ⟨rfl, rfl, rfl, rfl, rfl, rfl, rfl, rfl, rfl, rfl, rfl⟩ := ee
          subst h3
          exact spec_EntryAdd.w4 (K1 + K2) _ _ _ _ _ _ _ _ _ _ _ ⟨u⟩ ⟨u'⟩ ⟨k1 _ (by omega)⟩ ⟨k2 _ (by omega)⟩ ⟨h4⟩
      · rw [addE, if_neg (fun e => h3 e.2.2.1)] at ee
        simp only [Prod.mk.injEq] at ee
        obtain ⟨rfl, rfl, rfl, rfl, rfl, rfl, rfl, rfl, rfl, rfl, rfl⟩ := ee
        exact spec_EntryAdd.w3 (K1 + K2) _ _ _ _ _ _ _ _ _ _ _ _ ⟨u⟩ ⟨u'⟩ ⟨k1 _ (by omega)⟩ ⟨k2 _ (by omega)⟩ ⟨h3⟩
    · rw [addE, if_neg (fun e => h2 e.2.1)] at ee
      simp only [Prod.mk.injEq] at ee
      obtain ⟨rfl, rfl, rfl, rfl, rfl, rfl, rfl, rfl, rfl, rfl, rfl⟩ := ee
      rw [Bool.not_eq_true] at h2
      rw [h2] at k2
      exact spec_EntryAdd.w2 (K1 + K2) _ _ _ _ _ _ _ _ _ _ _ _ ⟨u⟩ ⟨u'⟩ ⟨k1 _ (by omega)⟩ ⟨k2 _ (by omega)⟩
  · rw [addE, if_neg (fun e => h1 e.1)] at ee
    simp only [Prod.mk.injEq] at ee
    obtain ⟨rfl, rfl, rfl, rfl, rfl, rfl, rfl, rfl, rfl, rfl, rfl⟩ := ee
    rw [Bool.not_eq_true] at h1
    rw [h1] at k1
    exact spec_EntryAdd.w1 (K1) _ _ _ _ _ _ _ _ _ _ _ _ ⟨u⟩ ⟨u'⟩ ⟨k1 _ (by omega)⟩
theorem implA_of (ke wi : Int) (l : List S70) (c s lo hi : Int) (h r : List Int) (R : List (List Int)) (ke' wi' : Int) (l' : List S70) (c' s' lo' hi' : Int) (h' r' : List Int) (R' : List (List Int)) (hl : l.length ≤ 1048576) (hl' : l'.length ≤ 1048576) {e1 e2 c1 s1 lo1 hi1 : Int} {l1 : List S70} {g1 r1 : List Int} {R1 : List (List Int)} {t : Bool}
    (ee : addE ke wi l c s lo hi h r R ke' wi' l' c' s' lo' hi' h' r' R' = (e1, e2, l1, c1, s1, lo1, hi1, g1, r1, R1, t)) : ImplA ke wi l c s lo hi h r R ke' wi' l' c' s' lo' hi' h' r' R' e1 e2 l1 c1 s1 lo1 hi1 g1 r1 R1 t := by
  intro w q x y z q' x' y' z' u u'
  obtain ⟨K1, k1⟩ := impl_entryOk_ev ke wi l c s lo hi h r R hl
  obtain ⟨K2, k2⟩ := impl_entryOk_ev ke' wi' l' c' s' lo' hi' h' r' R' hl'
  obtain ⟨K3, k3⟩ := impl_setApart_ev l l' hl hl'
  by_cases h1 : entryOk ke wi l c s lo hi h r R = true
  · rw [h1] at k1
    by_cases h2 : entryOk ke' wi' l' c' s' lo' hi' h' r' R' = true
    · rw [h2] at k2
      by_cases h3 : ke = ke'
      · by_cases h4 : wi = wi'
        · by_cases h5 : setApart l l' = true
          · rw [h5] at k3
            rw [addE, if_pos ⟨h1, h2, h3, h4, h5⟩] at ee
            simp only [Prod.mk.injEq] at ee
            obtain ⟨rfl, rfl, rfl, rfl, rfl, rfl, rfl, rfl, rfl, rfl, rfl⟩ := ee
            subst h3 h4
            have J := impl_setJoin_ev l l' hl hl'
            rw [show joinV l l' = (joinL l l', true) from if_pos (setApart_ok h5)] at J
            obtain ⟨K4, k4⟩ := J
            obtain ⟨K5, k5⟩ := impl_mrg_ev c s lo hi h r R c' s' lo' hi' h' r' R'
            exact impl_EntryAdd.w6 (K1 + K2 + K3 + K4 + K5) _ _ _ _ _ _ _ _ _ _ _ _ _ _ _ _ _ _ _ _ ⟨u⟩ ⟨u'⟩ ⟨k1 _ (by omega)⟩ ⟨k2 _ (by omega)⟩ ⟨k3 _ (by omega)⟩ ⟨k4 _ (by omega)⟩ ⟨k5 _ (by omega)⟩
          · rw [addE, if_neg (fun e => h5 e.2.2.2.2)] at ee
            simp only [Prod.mk.injEq] at ee
            obtain ⟨rfl, rfl, rfl, rfl, rfl, rfl, rfl, rfl, rfl, rfl, rfl⟩ := ee
            rw [Bool.not_eq_true] at h5
            rw [h5] at k3
            subst h3 h4
            exact impl_EntryAdd.w5 (K1 + K2 + K3) _ _ _ _ _ _ _ _ _ _ ⟨u⟩ ⟨u'⟩ ⟨k1 _ (by omega)⟩ ⟨k2 _ (by omega)⟩ ⟨k3 _ (by omega)⟩
        · rw [addE, if_neg (fun e => h4 e.2.2.2.1)] at ee
          simp only [Prod.mk.injEq] at ee
          obtain ⟨rfl, rfl, rfl, rfl, rfl, rfl, rfl, rfl, rfl, rfl, rfl⟩ := ee
          subst h3
          exact impl_EntryAdd.w4 (K1 + K2) _ _ _ _ _ _ _ _ _ _ _ ⟨u⟩ ⟨u'⟩ ⟨k1 _ (by omega)⟩ ⟨k2 _ (by omega)⟩ ⟨h4⟩
      · rw [addE, if_neg (fun e => h3 e.2.2.1)] at ee
        simp only [Prod.mk.injEq] at ee
        obtain ⟨rfl, rfl, rfl, rfl, rfl, rfl, rfl, rfl, rfl, rfl, rfl⟩ := ee
        exact impl_EntryAdd.w3 (K1 + K2) _ _ _ _ _ _ _ _ _ _ _ _ ⟨u⟩ ⟨u'⟩ ⟨k1 _ (by omega)⟩ ⟨k2 _ (by omega)⟩ ⟨h3⟩
    · rw [addE, if_neg (fun e => h2 e.2.1)] at ee
      simp only [Prod.mk.injEq] at ee
      obtain ⟨rfl, rfl, rfl, rfl, rfl, rfl, rfl, rfl, rfl, rfl, rfl⟩ := ee
      rw [Bool.not_eq_true] at h2
      rw [h2] at k2
      exact impl_EntryAdd.w2 (K1 + K2) _ _ _ _ _ _ _ _ _ _ _ _ ⟨u⟩ ⟨u'⟩ ⟨k1 _ (by omega)⟩ ⟨k2 _ (by omega)⟩
  · rw [addE, if_neg (fun e => h1 e.1)] at ee
    simp only [Prod.mk.injEq] at ee
    obtain ⟨rfl, rfl, rfl, rfl, rfl, rfl, rfl, rfl, rfl, rfl, rfl⟩ := ee
    rw [Bool.not_eq_true] at h1
    rw [h1] at k1
    exact impl_EntryAdd.w1 (K1) _ _ _ _ _ _ _ _ _ _ _ _ ⟨u⟩ ⟨u'⟩ ⟨k1 _ (by omega)⟩
set_option maxHeartbeats 32000000 in
set_option maxRecDepth 100000 in
theorem law0 (k : Nat) (V V' K2 M K2' M' K1 M1 ke wi c s lo hi ke' wi' c' s' lo' hi' e1 e2 c1 s1 lo1 hi1 : Int) (t : Bool) (q x y z q' x' y' z' : Sl) (l l' : List S113) (j j' l1 m1 m2 ml : List S70) (h r h' r' h1 r1 : List Int) (R R' R1 : List (List Int)) (w : World) (u : Ad w q x y z l h r R) (u' : Ad w q' x' y' z' l' h' r' R')
    (SZ : Aside0 (laws_szEntry.f k ke wi l c s lo hi h r R 1048576 = some V)) (hV : decide (V < 0) = false) (SZ' : Aside0 (laws_szEntry.f k ke' wi' l' c' s' lo' hi' h' r' R' V = some V')) (hV' : decide (V' < 0) = false)
    (TO : Aside0 (laws_toEntry.f k ke wi l c s lo hi h r R = some (ke, wi, j, c, s, lo, hi, h, r, R))) (TO' : Aside0 (laws_toEntry.f k ke' wi' l' c' s' lo' hi' h' r' R' = some (ke', wi', j', c', s', lo', hi', h', r', R')))
    (SI : Aside0 (SpecA ke wi j c s lo hi h r R ke' wi' j' c' s' lo' hi' h' r' R' e1 e2 l1 c1 s1 lo1 hi1 h1 r1 R1 t)) (II : Aside0 (ImplA ke wi j c s lo hi h r R ke' wi' j' c' s' lo' hi' h' r' R' e1 e2 l1 c1 s1 lo1 hi1 h1 r1 R1 t))
    (EQ : Aside0 (laws_eqEntry.f k ke wi j c s lo hi h r R ke wi j c s lo hi h r R = some true)) (EQ' : Aside0 (laws_eqEntry.f k ke' wi' j' c' s' lo' hi' h' r' R' ke' wi' j' c' s' lo' hi' h' r' R' = some true)) (EQ1 : Aside0 (laws_eqEntry.f k e1 e2 l1 c1 s1 lo1 hi1 h1 r1 R1 e1 e2 l1 c1 s1 lo1 hi1 h1 r1 R1 = some true))
    (MK : Aside0 (MkI k)) (ME : Aside0 (laws_markSpanS.f k j 1 = some (K2, m1))) (hK2 : 0 ≤ K2) (LM : Aside0 (K2 + (h.length : Int) + (r.length : Int) + (lensII R : Nat) = M ∧ M ≤ 1073741824 ∧ h.length ≤ 1048576 ∧ r.length ≤ 1048576 ∧ R.length ≤ 1048576 ∧ ∀ l ∈ R, l.length ≤ 1048576)) (ME' : Aside0 (laws_markSpanS.f k j' M = some (K2', m2))) (hK2' : 0 ≤ K2') (LM' : Aside0 (K2' + (h'.length : Int) + (r'.length : Int) + (lensII R' : Nat) = M' ∧ M' ≤ 1073741824 ∧ h'.length ≤ 1048576 ∧ r'.length ≤ 1048576 ∧ R'.length ≤ 1048576 ∧ ∀ l ∈ R', l.length ≤ 1048576)) (hM' : decide (M' < 0) = false)
    (ME1 : Aside0 (laws_markSpanS.f k l1 1 = some (K1, ml))) (hK1 : 0 ≤ K1) (LM1 : Aside0 (K1 + (h1.length : Int) + (r1.length : Int) + (lensII R1 : Nat) = M1 ∧ M1 ≤ 1073741824 ∧ h1.length ≤ 1048576 ∧ r1.length ≤ 1048576 ∧ R1.length ≤ 1048576 ∧ ∀ l ∈ R1, l.length ≤ 1048576)) (hM1 : decide (M1 < 0) = false)
    (HE : Aside0 (laws_heldEntry.f k e1 e2 ml c1 s1 lo1 hi1 (marksI K1 h1.length) (marksI (K1 + (h1.length : Int)) r1.length) (marksII (K1 + (h1.length : Int) + (r1.length : Int)) R1) 1 = some M1)) :
    Calls Try.prog 6 #[.agg #[.int .i64 ke, .int .i64 wi, .slice q.A q.n q.c, .int .i64 c, .int .i64 s, .int .i64 lo, .int .i64 hi, .slice x.A x.n x.c, .slice y.A y.n y.c, .slice z.A z.n z.c], .agg #[.int .i64 ke', .int .i64 wi', .slice q'.A q'.n q'.c, .int .i64 c', .int .i64 s', .int .i64 lo', .int .i64 hi', .slice x'.A x'.n x'.c, .slice y'.A y'.n y'.c, .slice z'.A z'.n z'.c]] w fun e w' => e = .returned (.bool true) ∧ Below w.heap.size w w' := by
  have U0 := Aside0.mk u
  have U1 := Aside0.mk u'
  clear u u'
  go_enter Try.func6, Try.ntmps6
  have hal := Aside0.mk (below_alloc (Below.refl _ w) (.cells #[.int .i64 ke, .int .i64 wi, .slice q.A q.n q.c, .int .i64 c, .int .i64 s, .int .i64 lo, .int .i64 hi, .slice x.A x.n x.c, .slice y.A y.n y.c, .slice z.A z.n z.c] 61))
  have HB_1 := Aside0.mk (hal.out)
  have Z_2 := Aside0.mk (show (w.alloc (.cells #[.int .i64 ke, .int .i64 wi, .slice q.A q.n q.c, .int .i64 c, .int .i64 s, .int .i64 lo, .int .i64 hi, .slice x.A x.n x.c, .slice y.A y.n y.c, .slice z.A z.n z.c] 61)).heap.size = w.heap.size + 1 by simp)
  have arg_3 := Aside0.mk (Bx.new w 61 #[.int .i64 ke, .int .i64 wi, .slice q.A q.n q.c, .int .i64 c, .int .i64 s, .int .i64 lo, .int .i64 hi, .slice x.A x.n x.c, .slice y.A y.n y.c, .slice z.A z.n z.c])
  clear hal
  have hal := Aside0.mk (below_alloc (Below.refl _ (w.alloc (.cells #[.int .i64 ke, .int .i64 wi, .slice q.A q.n q.c, .int .i64 c, .int .i64 s, .int .i64 lo, .int .i64 hi, .slice x.A x.n x.c, .slice y.A y.n y.c, .slice z.A z.n z.c] 61))) (.cells #[.int .i64 ke', .int .i64 wi', .slice q'.A q'.n q'.c, .int .i64 c', .int .i64 s', .int .i64 lo', .int .i64 hi', .slice x'.A x'.n x'.c, .slice y'.A y'.n y'.c, .slice z'.A z'.n z'.c] 61))
  have arg_4 := Aside0.mk (arg_3.out.below hal.out)
  have HB_5 := Aside0.mk (below_step HB_1.out hal.out)
  have Z_6 := Aside0.mk (show ((w.alloc (.cells #[.int .i64 ke, .int .i64 wi, .slice q.A q.n q.c, .int .i64 c, .int .i64 s, .int .i64 lo, .int .i64 hi, .slice x.A x.n x.c, .slice y.A y.n y.c, .slice z.A z.n z.c] 61)).alloc (.cells #[.int .i64 ke', .int .i64 wi', .slice q'.A q'.n q'.c, .int .i64 c', .int .i64 s', .int .i64 lo', .int .i64 hi', .slice x'.A x'.n x'.c, .slice y'.A y'.n y'.c, .slice z'.A z'.n z'.c] 61)).heap.size = w.heap.size + 1 + 1 by simp)
  have brg_7 := Aside0.mk ((show Bx ((w.alloc (.cells #[.int .i64 ke, .int .i64 wi, .slice q.A q.n q.c, .int .i64 c, .int .i64 s, .int .i64 lo, .int .i64 hi, .slice x.A x.n x.c, .slice y.A y.n y.c, .slice z.A z.n z.c] 61)).alloc (.cells #[.int .i64 ke', .int .i64 wi', .slice q'.A q'.n q'.c, .int .i64 c', .int .i64 s', .int .i64 lo', .int .i64 hi', .slice x'.A x'.n x'.c, .slice y'.A y'.n y'.c, .slice z'.A z'.n z'.c] 61)) (w.heap.size + 1) 61 #[.int .i64 ke', .int .i64 wi', .slice q'.A q'.n q'.c, .int .i64 c', .int .i64 s', .int .i64 lo', .int .i64 hi', .slice x'.A x'.n x'.c, .slice y'.A y'.n y'.c, .slice z'.A z'.n z'.c] from (show (w.alloc (.cells #[.int .i64 ke, .int .i64 wi, .slice q.A q.n q.c, .int .i64 c, .int .i64 s, .int .i64 lo, .int .i64 hi, .slice x.A x.n x.c, .slice y.A y.n y.c, .slice z.A z.n z.c] 61)).heap.size = w.heap.size + 1 by simp) ▸ Bx.new (w.alloc (.cells #[.int .i64 ke, .int .i64 wi, .slice q.A q.n q.c, .int .i64 c, .int .i64 s, .int .i64 lo, .int .i64 hi, .slice x.A x.n x.c, .slice y.A y.n y.c, .slice z.A z.n z.c] 61)) 61 #[.int .i64 ke', .int .i64 wi', .slice q'.A q'.n q'.c, .int .i64 c', .int .i64 s', .int .i64 lo', .int .i64 hi', .slice x'.A x'.n x'.c, .slice y'.A y'.n y'.c, .slice z'.A z'.n z'.c]))
  clear arg_3 HB_1 hal
  go_wp2_with fail
  refine (szE_callD k ke wi c s lo hi 1048576 V (U0.out.below HB_5.out) SZ.out).mono ?_
  rintro e w1 ⟨rfl, hb⟩
  have arg_8 := Aside0.mk (arg_4.out.below hb)
  have brg_9 := Aside0.mk (brg_7.out.below hb)
  have HB_10 := Aside0.mk (below_step HB_5.out hb)
  have Z_11 := Aside0.mk (hb.size)
  clear arg_4 brg_7 HB_5 hb
  obtain ⟨brg11c0, brg11c1, brg11c2, brg11c3, brg11c4, brg11c5, brg11c6, brg11c7, brg11c8, brg11c9⟩ := brg_9.out.cells10
  go_wp2_with fail
  clear brg11c0 brg11c1 brg11c2 brg11c3 brg11c4 brg11c5 brg11c6 brg11c7 brg11c8 brg11c9
  refine (szE_callD k ke' wi' c' s' lo' hi' V V' (U1.out.below HB_10.out) SZ'.out).mono ?_
  rintro e w2 ⟨rfl, hb⟩
  have arg_13 := Aside0.mk (arg_8.out.below hb)
  have brg_14 := Aside0.mk (brg_9.out.below hb)
  have HB_15 := Aside0.mk (below_step HB_10.out hb)
  have Z_16 := Aside0.mk (hb.size)
  clear arg_8 brg_9 HB_10 hb
  go_upto_region 8 with (fail)
  go_cut [6, 7] (fun v0 v1 wc => ∃ (gbw0 : Nat) (q2 : Sl) (x2 : Sl) (y2 : Sl) (z2 : Sl) (a2 b2 : Nat), v0 = .pointer (some ⟨gbw0, 0, none⟩) ∧ v1 = .bool t ∧ Aside0 (Er wc a2 b2 q2 x2 y2 z2 l1 h1 r1 R1 ∧ Bx wc gbw0 34 #[.int .i64 e1, .int .i64 e2, .slice q2.A q2.n q2.c, .int .i64 c1, .int .i64 s1, .int .i64 lo1, .int .i64 hi1, .slice x2.A x2.n x2.c, .slice y2.A y2.n y2.c, .slice z2.A z2.n z2.c] ∧ Below w2.heap.size w2 wc ∧ w2.heap.size ≤ gbw0 ∧ gbw0 < wc.heap.size ∧ w2.heap.size ≤ a2 ∧ a2 ≤ b2 ∧ b2 ≤ wc.heap.size))
  case first =>
    have LS := Aside0.mk (show ∀ w', Below w2.heap.size w2 w' → w'.cell? ⟨w.heap.size, 0, none⟩ = some (.int .i64 ke) ∧ w'.cell? ⟨w.heap.size, 1, none⟩ = some (.int .i64 wi) ∧ w'.cell? ⟨w.heap.size, 2, none⟩ = some (.slice q.A q.n q.c) ∧ w'.cell? ⟨w.heap.size, 3, none⟩ = some (.int .i64 c) ∧ w'.cell? ⟨w.heap.size, 4, none⟩ = some (.int .i64 s) ∧ w'.cell? ⟨w.heap.size, 5, none⟩ = some (.int .i64 lo) ∧ w'.cell? ⟨w.heap.size, 6, none⟩ = some (.int .i64 hi) ∧ w'.cell? ⟨w.heap.size, 7, none⟩ = some (.slice x.A x.n x.c) ∧ w'.cell? ⟨w.heap.size, 8, none⟩ = some (.slice y.A y.n y.c) ∧ w'.cell? ⟨w.heap.size, 9, none⟩ = some (.slice z.A z.n z.c) ∧ w'.cell? ⟨w.heap.size + 1, 0, none⟩ = some (.int .i64 ke') ∧ w'.cell? ⟨w.heap.size + 1, 1, none⟩ = some (.int .i64 wi') ∧ w'.cell? ⟨w.heap.size + 1, 2, none⟩ = some (.slice q'.A q'.n q'.c) ∧ w'.cell? ⟨w.heap.size + 1, 3, none⟩ = some (.int .i64 c') ∧ w'.cell? ⟨w.heap.size + 1, 4, none⟩ = some (.int .i64 s') ∧ w'.cell? ⟨w.heap.size + 1, 5, none⟩ = some (.int .i64 lo') ∧ w'.cell? ⟨w.heap.size + 1, 6, none⟩ = some (.int .i64 hi') ∧ w'.cell? ⟨w.heap.size + 1, 7, none⟩ = some (.slice x'.A x'.n x'.c) ∧ w'.cell? ⟨w.heap.size + 1, 8, none⟩ = some (.slice y'.A y'.n y'.c) ∧ w'.cell? ⟨w.heap.size + 1, 9, none⟩ = some (.slice z'.A z'.n z'.c) from fun w' F => by
      obtain ⟨argq0, argq1, argq2, argq3, argq4, argq5, argq6, argq7, argq8, argq9⟩ := (arg_13.out.below F).cells10
      obtain ⟨brgq0, brgq1, brgq2, brgq3, brgq4, brgq5, brgq6, brgq7, brgq8, brgq9⟩ := (brg_14.out.below F).cells10
      exact ⟨argq0, argq1, argq2, argq3, argq4, argq5, argq6, argq7, argq8, argq9, brgq0, brgq1, brgq2, brgq3, brgq4, brgq5, brgq6, brgq7, brgq8, brgq9⟩)
    have UA_ := Aside0.mk (U0.out.below HB_15.out)
    have UB_ := Aside0.mk (U1.out.below HB_15.out)
    have HQ0 := Aside0.mk (show Below w2.heap.size w2 w2.drew from below_drew (Below.refl _ _))
    go_region_held3 (fun w' => w'.cell? ⟨w.heap.size, 0, none⟩ = some (.int .i64 ke) ∧ w'.cell? ⟨w.heap.size, 1, none⟩ = some (.int .i64 wi) ∧ w'.cell? ⟨w.heap.size, 2, none⟩ = some (.slice q.A q.n q.c) ∧ w'.cell? ⟨w.heap.size, 3, none⟩ = some (.int .i64 c) ∧ w'.cell? ⟨w.heap.size, 4, none⟩ = some (.int .i64 s) ∧ w'.cell? ⟨w.heap.size, 5, none⟩ = some (.int .i64 lo) ∧ w'.cell? ⟨w.heap.size, 6, none⟩ = some (.int .i64 hi) ∧ w'.cell? ⟨w.heap.size, 7, none⟩ = some (.slice x.A x.n x.c) ∧ w'.cell? ⟨w.heap.size, 8, none⟩ = some (.slice y.A y.n y.c) ∧ w'.cell? ⟨w.heap.size, 9, none⟩ = some (.slice z.A z.n z.c) ∧ w'.cell? ⟨w.heap.size + 1, 0, none⟩ = some (.int .i64 ke') ∧ w'.cell? ⟨w.heap.size + 1, 1, none⟩ = some (.int .i64 wi') ∧ w'.cell? ⟨w.heap.size + 1, 2, none⟩ = some (.slice q'.A q'.n q'.c) ∧ w'.cell? ⟨w.heap.size + 1, 3, none⟩ = some (.int .i64 c') ∧ w'.cell? ⟨w.heap.size + 1, 4, none⟩ = some (.int .i64 s') ∧ w'.cell? ⟨w.heap.size + 1, 5, none⟩ = some (.int .i64 lo') ∧ w'.cell? ⟨w.heap.size + 1, 6, none⟩ = some (.int .i64 hi') ∧ w'.cell? ⟨w.heap.size + 1, 7, none⟩ = some (.slice x'.A x'.n x'.c) ∧ w'.cell? ⟨w.heap.size + 1, 8, none⟩ = some (.slice y'.A y'.n y'.c) ∧ w'.cell? ⟨w.heap.size + 1, 9, none⟩ = some (.slice z'.A z'.n z'.c)) (first | with_reducible exact FL.out _ _ _ _ _ _ _ _ _ _ | with_reducible exact LS.out _ HQ0.out | with_reducible exact LS.out _ (below_drew (below_alloc (Below.refl _ _) _)) | with_reducible exact LS.out _ (below_step HQ0.out (below_alloc (Below.refl _ _) _)) | with_reducible exact LS.out _ HQ1.out | with_reducible exact LS.out _ (below_step HQ1.out (below_alloc (Below.refl _ _) _)) | with_reducible exact LS.out _ HQ2.out | with_reducible exact LS.out _ (below_step HQ2.out (below_alloc (Below.refl _ _) _)) | with_reducible exact LS.out _ HQ3.out | with_reducible exact LS.out _ (below_step HQ3.out (below_alloc (Below.refl _ _) _)) | with_reducible exact LS.out _ (below_kp (below_step HQ3.out (below_alloc (Below.refl _ _) _)) ((Bx.new wq3 34 #[.int .i64 0, .int .i64 0, .slice none 0 0, .int .i64 0, .int .i64 0, .int .i64 0, .int .i64 0, .slice none 0 0, .slice none 0 0, .slice none 0 0]).fill10 _ _ _ _ _ _ _ _ _ _).2 HQ3.out.size (Nat.le_trans HQ3.out.size (sz_up _ _)))) (first | (go_at_call 32; (with_reducible refine (toE_callD k ke wi c s lo hi j (by first | exact UA_.out.below HQ0.out | exact UA_.out.below (below_drew (below_alloc (Below.refl _ _) _))) TO.out).mono ?_); rintro e wq1 ⟨q21, x21, y21, z21, a21, b21, rfl, hs, hm, hb⟩; (first | ((with_reducible have hz_ := reg_new HQ0.out hb hm); obtain ⟨hq, hy, hn, hp⟩ := hz_; have Y1 := Aside0.mk hy; have HQ1 := Aside0.mk hq; have M1 := Aside0.mk hn; have HP1 := Aside0.mk hp; clear hq hy hn hp) | ((with_reducible have hz_ := reg_new0 hb hm); obtain ⟨hq, hy, hn, hp⟩ := hz_; have Y1 := Aside0.mk hy; have HQ1 := Aside0.mk hq; have M1 := Aside0.mk hn; have HP1 := Aside0.mk hp; clear hq hy hn hp) | ((with_reducible have HQ1 := Aside0.mk (below_step HQ0.out hb)); have M1 := Aside0.mk hm; have HP1 := Aside0.mk hb)); have S21 := Aside0.mk hs; clear hs hm hb) | (go_at_call 32; (with_reducible refine (toE_callD k ke' wi' c' s' lo' hi' j' (by first | exact UB_.out.below HQ1.out | exact UB_.out.below (below_step HQ1.out (below_alloc (Below.refl _ _) _))) TO'.out).mono ?_); rintro e wq2 ⟨q22, x22, y22, z22, a22, b22, rfl, hs, hm, hb⟩; (first | ((with_reducible have hz_ := reg_new HQ1.out hb hm); obtain ⟨hq, hy, hn, hp⟩ := hz_; have Y2 := Aside0.mk hy; have HQ2 := Aside0.mk hq; have M2 := Aside0.mk hn; have HP2 := Aside0.mk hp; clear hq hy hn hp) | ((with_reducible have hz_ := reg_old HQ1.out Y1.out hb hm); obtain ⟨hq, hy⟩ := hz_; have Y2 := Aside0.mk hy; have HQ2 := Aside0.mk hq; have M2 := Aside0.mk hm; have HP2 := Aside0.mk hb; clear hq hy) | ((with_reducible have HQ2 := Aside0.mk (below_step HQ1.out hb)); have M2 := Aside0.mk hm; have HP2 := Aside0.mk hb)); have S22 := Aside0.mk hs; clear hs hm hb; replace S21 := Aside0.mk (S21.out.below HP2.out)) | (go_at_call 28; (with_reducible refine (specA_callD k ke wi c s lo hi ke' wi' c' s' lo' hi' e1 e2 c1 s1 lo1 hi1 l1 h1 r1 R1 t (by first | exact S21.out.rd | exact (S21.out.below (below_alloc (Below.refl _ _) _)).rd) (by first | exact S22.out.rd | exact (S22.out.below (below_alloc (Below.refl _ _) _)).rd) SI.out).mono ?_); rintro e wq3 ⟨q2, x2, y2, z2, a2, b2, rfl, hs, hm, hb⟩; (first | ((with_reducible have hz_ := reg_new HQ2.out hb hm); obtain ⟨hq, hy, hn, hp⟩ := hz_; have Y3 := Aside0.mk hy; have HQ3 := Aside0.mk hq; have M3 := Aside0.mk hn; have HP3 := Aside0.mk hp; clear hq hy hn hp) | ((with_reducible have hz_ := reg_old HQ2.out Y2.out hb hm); obtain ⟨hq, hy⟩ := hz_; have Y3 := Aside0.mk hy; have HQ3 := Aside0.mk hq; have M3 := Aside0.mk hm; have HP3 := Aside0.mk hb; clear hq hy) | ((with_reducible have HQ3 := Aside0.mk (below_step HQ2.out hb)); have M3 := Aside0.mk hm; have HP3 := Aside0.mk hb)); have w0 := Aside0.mk hs; clear hs hm hb; replace S21 := Aside0.mk (S21.out.below HP3.out); replace S22 := Aside0.mk (S22.out.below HP3.out); (first | (obtain ⟨cz0, cz1, cz2, cz3, cz4, cz5, cz6, cz7, cz8, cz9⟩ := Y3.out.bx.cells10; have cf := fun i => Bx.fz Y3.out.bx i; have FL := Aside0.mk (fun u0_ u1_ u2_ u3_ u4_ u5_ u6_ u7_ u8_ u9_ => LS.out _ (below_kp HQ3.out (Y3.out.bx.fill10 u0_ u1_ u2_ u3_ u4_ u5_ u6_ u7_ u8_ u9_).2 Y3.out.lo HQ3.out.size))) | skip)))
    all_goals
      refine Met.intro ?_
      go_step
      go_meet
      case rel =>
        first | (have FE := fun u0_ u1_ u2_ u3_ u4_ u5_ u6_ u7_ u8_ u9_ => reg_end_er HQ3.out Y3.out ⟨Nat.le_trans (Nat.le_trans HQ2.out.size (Nat.le_refl _)) M3.out.1, M3.out.2⟩ w0.out (Y3.out.bx.fill10 u0_ u1_ u2_ u3_ u4_ u5_ u6_ u7_ u8_ u9_); refine ⟨_, q2, x2, y2, z2, a2, b2, rfl, rfl, ⟨?_⟩⟩; exact FE (.int .i64 e1) (.int .i64 e2) (.slice q2.A q2.n q2.c) (.int .i64 c1) (.int .i64 s1) (.int .i64 lo1) (.int .i64 hi1) (.slice x2.A x2.n x2.c) (.slice y2.A y2.n y2.c) (.slice z2.A z2.n z2.c)) | (have FE := reg_last_er #[.int .i64 e1, .int .i64 e2, .slice q2.A q2.n q2.c, .int .i64 c1, .int .i64 s1, .int .i64 lo1, .int .i64 hi1, .slice x2.A x2.n x2.c, .slice y2.A y2.n y2.c, .slice z2.A z2.n z2.c] 34 HQ3.out ⟨Nat.le_trans (Nat.le_trans HQ2.out.size (Nat.le_refl _)) M3.out.1, M3.out.2⟩ w0.out; refine ⟨_, q2, x2, y2, z2, a2, b2, rfl, rfl, ⟨?_⟩⟩; exact FE)
  case rest =>
  obtain ⟨gbw0, q2, x2, y2, z2, a2, b2, rfl, rfl, ⟨hs, hx, hb, hz1, hz2, hz3, hz4, hz5⟩⟩ := hcut
  generalize wc = wc17 at *
  have w0_18 := Aside0.mk hs
  clear hs
  have bw0_19 := Aside0.mk hx
  clear hx
  have Z_20 := Aside0.mk hz1
  clear hz1
  have Z_21 := Aside0.mk hz2
  clear hz2
  have Z_22 := Aside0.mk hz3
  clear hz3
  have Z_23 := Aside0.mk hz4
  clear hz4
  have Z_24 := Aside0.mk hz5
  clear hz5
  have arg_25 := Aside0.mk (arg_13.out.below hb)
  have brg_26 := Aside0.mk (brg_14.out.below hb)
  have HB_27 := Aside0.mk (below_step HB_15.out hb)
  have Z_28 := Aside0.mk (hb.size)
  clear arg_13 brg_14 HB_15 hb
  obtain ⟨arg28c0, arg28c1, arg28c2, arg28c3, arg28c4, arg28c5, arg28c6, arg28c7, arg28c8, arg28c9⟩ := arg_25.out.cells10
  go_wp2_with fail
  clear arg28c0 arg28c1 arg28c2 arg28c3 arg28c4 arg28c5 arg28c6 arg28c7 arg28c8 arg28c9
  refine (toE_callD k ke wi c s lo hi j (U0.out.below HB_27.out) TO.out).mono ?_
  rintro e w3 ⟨q3, x3, y3, z3, a3, b3, rfl, hs, hm, hb⟩
  have S3_30 := Aside0.mk hs
  clear hs
  have Z_31 := Aside0.mk hm
  clear hm
  unfold Made at Z_31
  have arg_32 := Aside0.mk (arg_25.out.below hb)
  have brg_33 := Aside0.mk (brg_26.out.below hb)
  have w0_34 := Aside0.mk (w0_18.out.below hb)
  have bw0_35 := Aside0.mk (bw0_19.out.below hb)
  have HB_36 := Aside0.mk (below_step HB_27.out hb)
  have Z_37 := Aside0.mk (hb.size)
  clear arg_25 brg_26 w0_18 bw0_19 HB_27 hb
  have hal := Aside0.mk (below_alloc (Below.refl _ w3) (.cells #[.int .i64 ke, .int .i64 wi, .slice q3.A q3.n q3.c, .int .i64 c, .int .i64 s, .int .i64 lo, .int .i64 hi, .slice x3.A x3.n x3.c, .slice y3.A y3.n y3.c, .slice z3.A z3.n z3.c] 34))
  have arg_38 := Aside0.mk (arg_32.out.below hal.out)
  have brg_39 := Aside0.mk (brg_33.out.below hal.out)
  have w0_40 := Aside0.mk (w0_34.out.below hal.out)
  have bw0_41 := Aside0.mk (bw0_35.out.below hal.out)
  have S3_42 := Aside0.mk (S3_30.out.below hal.out)
  have HB_43 := Aside0.mk (below_step HB_36.out hal.out)
  have Z_44 := Aside0.mk (show (w3.alloc (.cells #[.int .i64 ke, .int .i64 wi, .slice q3.A q3.n q3.c, .int .i64 c, .int .i64 s, .int .i64 lo, .int .i64 hi, .slice x3.A x3.n x3.c, .slice y3.A y3.n y3.c, .slice z3.A z3.n z3.c] 34)).heap.size = w3.heap.size + 1 by simp)
  have x0_45 := Aside0.mk (Bx.new w3 34 #[.int .i64 ke, .int .i64 wi, .slice q3.A q3.n q3.c, .int .i64 c, .int .i64 s, .int .i64 lo, .int .i64 hi, .slice x3.A x3.n x3.c, .slice y3.A y3.n y3.c, .slice z3.A z3.n z3.c])
  clear arg_32 brg_33 w0_34 bw0_35 S3_30 HB_36 hal
  obtain ⟨brg45c0, brg45c1, brg45c2, brg45c3, brg45c4, brg45c5, brg45c6, brg45c7, brg45c8, brg45c9⟩ := brg_39.out.cells10
  go_wp2_with fail
  clear brg45c0 brg45c1 brg45c2 brg45c3 brg45c4 brg45c5 brg45c6 brg45c7 brg45c8 brg45c9
  refine (toE_callD k ke' wi' c' s' lo' hi' j' (U1.out.below HB_43.out) TO'.out).mono ?_
  rintro e w4 ⟨q4, x4, y4, z4, a4, b4, rfl, hs, hm, hb⟩
  have S4_47 := Aside0.mk hs
  clear hs
  have Z_48 := Aside0.mk hm
  clear hm
  unfold Made at Z_48
  have arg_49 := Aside0.mk (arg_38.out.below hb)
  have brg_50 := Aside0.mk (brg_39.out.below hb)
  have w0_51 := Aside0.mk (w0_40.out.below hb)
  have bw0_52 := Aside0.mk (bw0_41.out.below hb)
  have S3_53 := Aside0.mk (S3_42.out.below hb)
  have x0_54 := Aside0.mk (x0_45.out.below hb)
  have HB_55 := Aside0.mk (below_step HB_43.out hb)
  have Z_56 := Aside0.mk (hb.size)
  clear arg_38 brg_39 w0_40 bw0_41 S3_42 x0_45 HB_43 hb
  have hal := Aside0.mk (below_alloc (Below.refl _ w4) (.cells #[.int .i64 ke', .int .i64 wi', .slice q4.A q4.n q4.c, .int .i64 c', .int .i64 s', .int .i64 lo', .int .i64 hi', .slice x4.A x4.n x4.c, .slice y4.A y4.n y4.c, .slice z4.A z4.n z4.c] 34))
  have arg_57 := Aside0.mk (arg_49.out.below hal.out)
  have brg_58 := Aside0.mk (brg_50.out.below hal.out)
  have w0_59 := Aside0.mk (w0_51.out.below hal.out)
  have bw0_60 := Aside0.mk (bw0_52.out.below hal.out)
  have S3_61 := Aside0.mk (S3_53.out.below hal.out)
  have x0_62 := Aside0.mk (x0_54.out.below hal.out)
  have S4_63 := Aside0.mk (S4_47.out.below hal.out)
  have HB_64 := Aside0.mk (below_step HB_55.out hal.out)
  have Z_65 := Aside0.mk (show (w4.alloc (.cells #[.int .i64 ke', .int .i64 wi', .slice q4.A q4.n q4.c, .int .i64 c', .int .i64 s', .int .i64 lo', .int .i64 hi', .slice x4.A x4.n x4.c, .slice y4.A y4.n y4.c, .slice z4.A z4.n z4.c] 34)).heap.size = w4.heap.size + 1 by simp)
  have x1_66 := Aside0.mk (Bx.new w4 34 #[.int .i64 ke', .int .i64 wi', .slice q4.A q4.n q4.c, .int .i64 c', .int .i64 s', .int .i64 lo', .int .i64 hi', .slice x4.A x4.n x4.c, .slice y4.A y4.n y4.c, .slice z4.A z4.n z4.c])
  clear arg_49 brg_50 w0_51 bw0_52 S3_53 x0_54 S4_47 HB_55 hal
  obtain ⟨x066c0, x066c1, x066c2, x066c3, x066c4, x066c5, x066c6, x066c7, x066c8, x066c9⟩ := x0_62.out.cells10
  go_wp2_with fail
  clear x066c0 x066c1 x066c2 x066c3 x066c4 x066c5 x066c6 x066c7 x066c8 x066c9
  refine (implA_callD k ke wi c s lo hi ke' wi' c' s' lo' hi' e1 e2 c1 s1 lo1 hi1 l1 h1 r1 R1 t S3_61.out.rd S4_63.out.rd II.out).mono ?_
  rintro e w5 ⟨q5, x5, y5, z5, a5, b5, rfl, hs, hm, hb⟩
  have g0_68 := Aside0.mk hs
  clear hs
  have Z_69 := Aside0.mk hm
  clear hm
  unfold Made at Z_69
  have arg_70 := Aside0.mk (arg_57.out.below hb)
  have brg_71 := Aside0.mk (brg_58.out.below hb)
  have w0_72 := Aside0.mk (w0_59.out.below hb)
  have bw0_73 := Aside0.mk (bw0_60.out.below hb)
  have S3_74 := Aside0.mk (S3_61.out.below hb)
  have x0_75 := Aside0.mk (x0_62.out.below hb)
  have S4_76 := Aside0.mk (S4_63.out.below hb)
  have x1_77 := Aside0.mk (x1_66.out.below hb)
  have HB_78 := Aside0.mk (below_step HB_64.out hb)
  have Z_79 := Aside0.mk (hb.size)
  clear arg_57 brg_58 w0_59 bw0_60 S3_61 x0_62 S4_63 x1_66 HB_64 hb
  have hal := Aside0.mk (below_alloc (Below.refl _ w5) (.cells #[.int .i64 e1, .int .i64 e2, .slice q5.A q5.n q5.c, .int .i64 c1, .int .i64 s1, .int .i64 lo1, .int .i64 hi1, .slice x5.A x5.n x5.c, .slice y5.A y5.n y5.c, .slice z5.A z5.n z5.c] 34))
  have arg_80 := Aside0.mk (arg_70.out.below hal.out)
  have brg_81 := Aside0.mk (brg_71.out.below hal.out)
  have w0_82 := Aside0.mk (w0_72.out.below hal.out)
  have bw0_83 := Aside0.mk (bw0_73.out.below hal.out)
  have S3_84 := Aside0.mk (S3_74.out.below hal.out)
  have x0_85 := Aside0.mk (x0_75.out.below hal.out)
  have S4_86 := Aside0.mk (S4_76.out.below hal.out)
  have x1_87 := Aside0.mk (x1_77.out.below hal.out)
  have g0_88 := Aside0.mk (g0_68.out.below hal.out)
  have HB_89 := Aside0.mk (below_step HB_78.out hal.out)
  have Z_90 := Aside0.mk (show (w5.alloc (.cells #[.int .i64 e1, .int .i64 e2, .slice q5.A q5.n q5.c, .int .i64 c1, .int .i64 s1, .int .i64 lo1, .int .i64 hi1, .slice x5.A x5.n x5.c, .slice y5.A y5.n y5.c, .slice z5.A z5.n z5.c] 34)).heap.size = w5.heap.size + 1 by simp)
  have bg0_91 := Aside0.mk (Bx.new w5 34 #[.int .i64 e1, .int .i64 e2, .slice q5.A q5.n q5.c, .int .i64 c1, .int .i64 s1, .int .i64 lo1, .int .i64 hi1, .slice x5.A x5.n x5.c, .slice y5.A y5.n y5.c, .slice z5.A z5.n z5.c])
  clear arg_70 brg_71 w0_72 bw0_73 S3_74 x0_75 S4_76 x1_77 g0_68 HB_78 hal
  obtain ⟨bg091c0, bg091c1, bg091c2, bg091c3, bg091c4, bg091c5, bg091c6, bg091c7, bg091c8, bg091c9⟩ := bg0_91.out.cells10
  obtain ⟨bw092c0, bw092c1, bw092c2, bw092c3, bw092c4, bw092c5, bw092c6, bw092c7, bw092c8, bw092c9⟩ := bw0_83.out.cells10
  go_wp2_with fail
  clear bg091c0 bg091c1 bg091c2 bg091c3 bg091c4 bg091c5 bg091c6 bg091c7 bg091c8 bg091c9 bw092c0 bw092c1 bw092c2 bw092c3 bw092c4 bw092c5 bw092c6 bw092c7 bw092c8 bw092c9
  refine (eqE_callD k e1 e2 c1 s1 lo1 hi1 g0_88.out.rd w0_82.out.rd EQ1.out).mono ?_
  rintro e w6 ⟨rfl, hb⟩
  have arg_94 := Aside0.mk (arg_80.out.below hb)
  have brg_95 := Aside0.mk (brg_81.out.below hb)
  have w0_96 := Aside0.mk (w0_82.out.below hb)
  have bw0_97 := Aside0.mk (bw0_83.out.below hb)
  have S3_98 := Aside0.mk (S3_84.out.below hb)
  have x0_99 := Aside0.mk (x0_85.out.below hb)
  have S4_100 := Aside0.mk (S4_86.out.below hb)
  have x1_101 := Aside0.mk (x1_87.out.below hb)
  have g0_102 := Aside0.mk (g0_88.out.below hb)
  have bg0_103 := Aside0.mk (bg0_91.out.below hb)
  have HB_104 := Aside0.mk (below_step HB_89.out hb)
  have Z_105 := Aside0.mk (hb.size)
  clear arg_80 brg_81 w0_82 bw0_83 S3_84 x0_85 S4_86 x1_87 g0_88 bg0_91 HB_89 hb
  obtain ⟨x0105c0, x0105c1, x0105c2, x0105c3, x0105c4, x0105c5, x0105c6, x0105c7, x0105c8, x0105c9⟩ := x0_99.out.cells10
  obtain ⟨arg106c0, arg106c1, arg106c2, arg106c3, arg106c4, arg106c5, arg106c6, arg106c7, arg106c8, arg106c9⟩ := arg_94.out.cells10
  go_wp2_with fail
  have arg_108 := Aside0.mk (arg_94.out.below (below_drew (Below.refl _ w6)))
  have brg_109 := Aside0.mk (brg_95.out.below (below_drew (Below.refl _ w6)))
  have w0_110 := Aside0.mk (w0_96.out.below (below_drew (Below.refl _ w6)))
  have bw0_111 := Aside0.mk (bw0_97.out.below (below_drew (Below.refl _ w6)))
  have S3_112 := Aside0.mk (S3_98.out.below (below_drew (Below.refl _ w6)))
  have x0_113 := Aside0.mk (x0_99.out.below (below_drew (Below.refl _ w6)))
  have S4_114 := Aside0.mk (S4_100.out.below (below_drew (Below.refl _ w6)))
  have x1_115 := Aside0.mk (x1_101.out.below (below_drew (Below.refl _ w6)))
  have g0_116 := Aside0.mk (g0_102.out.below (below_drew (Below.refl _ w6)))
  have bg0_117 := Aside0.mk (bg0_103.out.below (below_drew (Below.refl _ w6)))
  have HB_118 := Aside0.mk (below_step HB_104.out (below_drew (Below.refl _ w6)))
  have Z_119 := Aside0.mk (show w6.drew.heap.size = w6.heap.size by simp)
  clear arg_94 brg_95 w0_96 bw0_97 S3_98 x0_99 S4_100 x1_101 g0_102 bg0_103 HB_104
  go_region_held3 (fun w' => w'.cell? ⟨w3.heap.size, 0, none⟩ = some (.int .i64 ke) ∧ w'.cell? ⟨w3.heap.size, 1, none⟩ = some (.int .i64 wi) ∧ w'.cell? ⟨w3.heap.size, 2, none⟩ = some (.slice q3.A q3.n q3.c) ∧ w'.cell? ⟨w3.heap.size, 3, none⟩ = some (.int .i64 c) ∧ w'.cell? ⟨w3.heap.size, 4, none⟩ = some (.int .i64 s) ∧ w'.cell? ⟨w3.heap.size, 5, none⟩ = some (.int .i64 lo) ∧ w'.cell? ⟨w3.heap.size, 6, none⟩ = some (.int .i64 hi) ∧ w'.cell? ⟨w3.heap.size, 7, none⟩ = some (.slice x3.A x3.n x3.c) ∧ w'.cell? ⟨w3.heap.size, 8, none⟩ = some (.slice y3.A y3.n y3.c) ∧ w'.cell? ⟨w3.heap.size, 9, none⟩ = some (.slice z3.A z3.n z3.c) ∧ w'.cell? ⟨w.heap.size, 0, none⟩ = some (.int .i64 ke) ∧ w'.cell? ⟨w.heap.size, 1, none⟩ = some (.int .i64 wi) ∧ w'.cell? ⟨w.heap.size, 2, none⟩ = some (.slice q.A q.n q.c) ∧ w'.cell? ⟨w.heap.size, 3, none⟩ = some (.int .i64 c) ∧ w'.cell? ⟨w.heap.size, 4, none⟩ = some (.int .i64 s) ∧ w'.cell? ⟨w.heap.size, 5, none⟩ = some (.int .i64 lo) ∧ w'.cell? ⟨w.heap.size, 6, none⟩ = some (.int .i64 hi) ∧ w'.cell? ⟨w.heap.size, 7, none⟩ = some (.slice x.A x.n x.c) ∧ w'.cell? ⟨w.heap.size, 8, none⟩ = some (.slice y.A y.n y.c) ∧ w'.cell? ⟨w.heap.size, 9, none⟩ = some (.slice z.A z.n z.c)) (first | go_keep | exact ⟨x0133c0, x0133c1, x0133c2, x0133c3, x0133c4, x0133c5, x0133c6, x0133c7, x0133c8, x0133c9, arg134c0, arg134c1, arg134c2, arg134c3, arg134c4, arg134c5, arg134c6, arg134c7, arg134c8, arg134c9⟩ | exact ⟨x0148c0, x0148c1, x0148c2, x0148c3, x0148c4, x0148c5, x0148c6, x0148c7, x0148c8, x0148c9, arg149c0, arg149c1, arg149c2, arg149c3, arg149c4, arg149c5, arg149c6, arg149c7, arg149c8, arg149c9⟩) (first | (go_at_call 32; refine (toE_callD k ke wi c s lo hi j (U0.out.below HB_118.out) TO.out).mono ?_; rintro e w7 ⟨q6, x6, y6, z6, a6, b6, rfl, hs, hm, hb⟩; have S6_120 := Aside0.mk hs; clear hs; have Z_121 := Aside0.mk hm; clear hm; unfold Made at Z_121; have arg_122 := Aside0.mk (arg_108.out.below hb); have brg_123 := Aside0.mk (brg_109.out.below hb); have w0_124 := Aside0.mk (w0_110.out.below hb); have bw0_125 := Aside0.mk (bw0_111.out.below hb); have S3_126 := Aside0.mk (S3_112.out.below hb); have x0_127 := Aside0.mk (x0_113.out.below hb); have S4_128 := Aside0.mk (S4_114.out.below hb); have x1_129 := Aside0.mk (x1_115.out.below hb); have g0_130 := Aside0.mk (g0_116.out.below hb); have bg0_131 := Aside0.mk (bg0_117.out.below hb); have HB_132 := Aside0.mk (below_step HB_118.out hb); have Z_133 := Aside0.mk (hb.size); clear arg_108 brg_109 w0_110 bw0_111 S3_112 x0_113 S4_114 x1_115 g0_116 bg0_117 HB_118 hb; obtain ⟨x0133c0, x0133c1, x0133c2, x0133c3, x0133c4, x0133c5, x0133c6, x0133c7, x0133c8, x0133c9⟩ := x0_127.out.cells10; obtain ⟨arg134c0, arg134c1, arg134c2, arg134c3, arg134c4, arg134c5, arg134c6, arg134c7, arg134c8, arg134c9⟩ := arg_122.out.cells10) | (go_at_call 21; refine (eqE_callD k ke wi c s lo hi S3_126.out.rd S6_120.out.rd EQ.out).mono ?_; rintro e w8 ⟨rfl, hb⟩; have arg_136 := Aside0.mk (arg_122.out.below hb); have brg_137 := Aside0.mk (brg_123.out.below hb); have w0_138 := Aside0.mk (w0_124.out.below hb); have bw0_139 := Aside0.mk (bw0_125.out.below hb); have S3_140 := Aside0.mk (S3_126.out.below hb); have x0_141 := Aside0.mk (x0_127.out.below hb); have S4_142 := Aside0.mk (S4_128.out.below hb); have x1_143 := Aside0.mk (x1_129.out.below hb); have g0_144 := Aside0.mk (g0_130.out.below hb); have bg0_145 := Aside0.mk (bg0_131.out.below hb); have S6_146 := Aside0.mk (S6_120.out.below hb); have HB_147 := Aside0.mk (below_step HB_132.out hb); have Z_148 := Aside0.mk (hb.size); clear arg_122 brg_123 w0_124 bw0_125 S3_126 x0_127 S4_128 x1_129 g0_130 bg0_131 S6_120 HB_132 hb; obtain ⟨x0148c0, x0148c1, x0148c2, x0148c3, x0148c4, x0148c5, x0148c6, x0148c7, x0148c8, x0148c9⟩ := x0_141.out.cells10; obtain ⟨arg149c0, arg149c1, arg149c2, arg149c3, arg149c4, arg149c5, arg149c6, arg149c7, arg149c8, arg149c9⟩ := arg_136.out.cells10))
  try clear x0148c0 x0148c1 x0148c2 x0148c3 x0148c4 x0148c5 x0148c6 x0148c7 x0148c8 x0148c9 arg149c0 arg149c1 arg149c2 arg149c3 arg149c4 arg149c5 arg149c6 arg149c7 arg149c8 arg149c9
  clear S6_146
  obtain ⟨x1150c0, x1150c1, x1150c2, x1150c3, x1150c4, x1150c5, x1150c6, x1150c7, x1150c8, x1150c9⟩ := x1_143.out.cells10
  obtain ⟨brg151c0, brg151c1, brg151c2, brg151c3, brg151c4, brg151c5, brg151c6, brg151c7, brg151c8, brg151c9⟩ := brg_137.out.cells10
  go_wp2_with fail
  have arg_153 := Aside0.mk (arg_136.out.below (below_drew (Below.refl _ w8)))
  have brg_154 := Aside0.mk (brg_137.out.below (below_drew (Below.refl _ w8)))
  have w0_155 := Aside0.mk (w0_138.out.below (below_drew (Below.refl _ w8)))
  have bw0_156 := Aside0.mk (bw0_139.out.below (below_drew (Below.refl _ w8)))
  have S3_157 := Aside0.mk (S3_140.out.below (below_drew (Below.refl _ w8)))
  have x0_158 := Aside0.mk (x0_141.out.below (below_drew (Below.refl _ w8)))
  have S4_159 := Aside0.mk (S4_142.out.below (below_drew (Below.refl _ w8)))
  have x1_160 := Aside0.mk (x1_143.out.below (below_drew (Below.refl _ w8)))
  have g0_161 := Aside0.mk (g0_144.out.below (below_drew (Below.refl _ w8)))
  have bg0_162 := Aside0.mk (bg0_145.out.below (below_drew (Below.refl _ w8)))
  have HB_163 := Aside0.mk (below_step HB_147.out (below_drew (Below.refl _ w8)))
  have Z_164 := Aside0.mk (show w8.drew.heap.size = w8.heap.size by simp)
  clear arg_136 brg_137 w0_138 bw0_139 S3_140 x0_141 S4_142 x1_143 g0_144 bg0_145 HB_147
  go_region_held3 (fun w' => w'.cell? ⟨w4.heap.size, 0, none⟩ = some (.int .i64 ke') ∧ w'.cell? ⟨w4.heap.size, 1, none⟩ = some (.int .i64 wi') ∧ w'.cell? ⟨w4.heap.size, 2, none⟩ = some (.slice q4.A q4.n q4.c) ∧ w'.cell? ⟨w4.heap.size, 3, none⟩ = some (.int .i64 c') ∧ w'.cell? ⟨w4.heap.size, 4, none⟩ = some (.int .i64 s') ∧ w'.cell? ⟨w4.heap.size, 5, none⟩ = some (.int .i64 lo') ∧ w'.cell? ⟨w4.heap.size, 6, none⟩ = some (.int .i64 hi') ∧ w'.cell? ⟨w4.heap.size, 7, none⟩ = some (.slice x4.A x4.n x4.c) ∧ w'.cell? ⟨w4.heap.size, 8, none⟩ = some (.slice y4.A y4.n y4.c) ∧ w'.cell? ⟨w4.heap.size, 9, none⟩ = some (.slice z4.A z4.n z4.c) ∧ w'.cell? ⟨w.heap.size + 1, 0, none⟩ = some (.int .i64 ke') ∧ w'.cell? ⟨w.heap.size + 1, 1, none⟩ = some (.int .i64 wi') ∧ w'.cell? ⟨w.heap.size + 1, 2, none⟩ = some (.slice q'.A q'.n q'.c) ∧ w'.cell? ⟨w.heap.size + 1, 3, none⟩ = some (.int .i64 c') ∧ w'.cell? ⟨w.heap.size + 1, 4, none⟩ = some (.int .i64 s') ∧ w'.cell? ⟨w.heap.size + 1, 5, none⟩ = some (.int .i64 lo') ∧ w'.cell? ⟨w.heap.size + 1, 6, none⟩ = some (.int .i64 hi') ∧ w'.cell? ⟨w.heap.size + 1, 7, none⟩ = some (.slice x'.A x'.n x'.c) ∧ w'.cell? ⟨w.heap.size + 1, 8, none⟩ = some (.slice y'.A y'.n y'.c) ∧ w'.cell? ⟨w.heap.size + 1, 9, none⟩ = some (.slice z'.A z'.n z'.c)) (first | go_keep | exact ⟨x1178c0, x1178c1, x1178c2, x1178c3, x1178c4, x1178c5, x1178c6, x1178c7, x1178c8, x1178c9, brg179c0, brg179c1, brg179c2, brg179c3, brg179c4, brg179c5, brg179c6, brg179c7, brg179c8, brg179c9⟩ | exact ⟨x1193c0, x1193c1, x1193c2, x1193c3, x1193c4, x1193c5, x1193c6, x1193c7, x1193c8, x1193c9, brg194c0, brg194c1, brg194c2, brg194c3, brg194c4, brg194c5, brg194c6, brg194c7, brg194c8, brg194c9⟩) (first | (go_at_call 32; refine (toE_callD k ke' wi' c' s' lo' hi' j' (U1.out.below HB_163.out) TO'.out).mono ?_; rintro e w9 ⟨q7, x7, y7, z7, a7, b7, rfl, hs, hm, hb⟩; have S7_165 := Aside0.mk hs; clear hs; have Z_166 := Aside0.mk hm; clear hm; unfold Made at Z_166; have arg_167 := Aside0.mk (arg_153.out.below hb); have brg_168 := Aside0.mk (brg_154.out.below hb); have w0_169 := Aside0.mk (w0_155.out.below hb); have bw0_170 := Aside0.mk (bw0_156.out.below hb); have S3_171 := Aside0.mk (S3_157.out.below hb); have x0_172 := Aside0.mk (x0_158.out.below hb); have S4_173 := Aside0.mk (S4_159.out.below hb); have x1_174 := Aside0.mk (x1_160.out.below hb); have g0_175 := Aside0.mk (g0_161.out.below hb); have bg0_176 := Aside0.mk (bg0_162.out.below hb); have HB_177 := Aside0.mk (below_step HB_163.out hb); have Z_178 := Aside0.mk (hb.size); clear arg_153 brg_154 w0_155 bw0_156 S3_157 x0_158 S4_159 x1_160 g0_161 bg0_162 HB_163 hb; obtain ⟨x1178c0, x1178c1, x1178c2, x1178c3, x1178c4, x1178c5, x1178c6, x1178c7, x1178c8, x1178c9⟩ := x1_174.out.cells10; obtain ⟨brg179c0, brg179c1, brg179c2, brg179c3, brg179c4, brg179c5, brg179c6, brg179c7, brg179c8, brg179c9⟩ := brg_168.out.cells10) | (go_at_call 21; refine (eqE_callD k ke' wi' c' s' lo' hi' S4_173.out.rd S7_165.out.rd EQ'.out).mono ?_; rintro e w10 ⟨rfl, hb⟩; have arg_181 := Aside0.mk (arg_167.out.below hb); have brg_182 := Aside0.mk (brg_168.out.below hb); have w0_183 := Aside0.mk (w0_169.out.below hb); have bw0_184 := Aside0.mk (bw0_170.out.below hb); have S3_185 := Aside0.mk (S3_171.out.below hb); have x0_186 := Aside0.mk (x0_172.out.below hb); have S4_187 := Aside0.mk (S4_173.out.below hb); have x1_188 := Aside0.mk (x1_174.out.below hb); have g0_189 := Aside0.mk (g0_175.out.below hb); have bg0_190 := Aside0.mk (bg0_176.out.below hb); have S7_191 := Aside0.mk (S7_165.out.below hb); have HB_192 := Aside0.mk (below_step HB_177.out hb); have Z_193 := Aside0.mk (hb.size); clear arg_167 brg_168 w0_169 bw0_170 S3_171 x0_172 S4_173 x1_174 g0_175 bg0_176 S7_165 HB_177 hb; obtain ⟨x1193c0, x1193c1, x1193c2, x1193c3, x1193c4, x1193c5, x1193c6, x1193c7, x1193c8, x1193c9⟩ := x1_188.out.cells10; obtain ⟨brg194c0, brg194c1, brg194c2, brg194c3, brg194c4, brg194c5, brg194c6, brg194c7, brg194c8, brg194c9⟩ := brg_182.out.cells10))
  try clear x1193c0 x1193c1 x1193c2 x1193c3 x1193c4 x1193c5 x1193c6 x1193c7 x1193c8 x1193c9 brg194c0 brg194c1 brg194c2 brg194c3 brg194c4 brg194c5 brg194c6 brg194c7 brg194c8 brg194c9
  clear S7_191
  obtain ⟨x0195c0, x0195c1, x0195c2, x0195c3, x0195c4, x0195c5, x0195c6, x0195c7, x0195c8, x0195c9⟩ := x0_186.out.cells10
  go_wp2_with fail
  clear x0195c0 x0195c1 x0195c2 x0195c3 x0195c4 x0195c5 x0195c6 x0195c7 x0195c8 x0195c9
  refine (markE_call k MK ke wi c s lo hi 1 K2 M S3_185.out Zx2 Zx2 hK2 ME LM).mono ?_
  rintro e w11 ⟨rfl, hs, hk⟩
  have S3_197 := Aside0.mk hs
  clear hs
  clear S3_185
  have arg_198 := Aside0.mk (arg_181.out.kp hk Zx2)
  have brg_199 := Aside0.mk (brg_182.out.kp hk Zx2)
  have w0_200 := Aside0.mk (w0_183.out.kp hk Zx2)
  have bw0_201 := Aside0.mk (bw0_184.out.kp hk Zx2)
  have x0_202 := Aside0.mk (x0_186.out.kp hk Zx2)
  have S4_203 := Aside0.mk (S4_187.out.kp hk Zx2)
  have x1_204 := Aside0.mk (x1_188.out.kp hk Zx2)
  have g0_205 := Aside0.mk (g0_189.out.kp hk Zx2)
  have bg0_206 := Aside0.mk (bg0_190.out.kp hk Zx2)
  have HB_207 := Aside0.mk (below_kp HB_192.out hk Zx2 HB_192.out.size)
  have Z_208 := Aside0.mk (hk.kept.1)
  clear arg_181 brg_182 w0_183 bw0_184 x0_186 S4_187 x1_188 g0_189 bg0_190 HB_192 hk
  obtain ⟨x1208c0, x1208c1, x1208c2, x1208c3, x1208c4, x1208c5, x1208c6, x1208c7, x1208c8, x1208c9⟩ := x1_204.out.cells10
  go_wp2_with fail
  clear x1208c0 x1208c1 x1208c2 x1208c3 x1208c4 x1208c5 x1208c6 x1208c7 x1208c8 x1208c9
  refine (markE_call k MK ke' wi' c' s' lo' hi' M K2' M' S4_203.out Zx1 Zx1 hK2' ME' LM').mono ?_
  rintro e w12 ⟨rfl, hs, hk⟩
  have S4_210 := Aside0.mk hs
  clear hs
  clear S4_203
  have arg_211 := Aside0.mk (arg_198.out.kp hk Zx1)
  have brg_212 := Aside0.mk (brg_199.out.kp hk Zx1)
  have w0_213 := Aside0.mk (w0_200.out.kp hk Zx1)
  have bw0_214 := Aside0.mk (bw0_201.out.kp hk Zx1)
  have x0_215 := Aside0.mk (x0_202.out.kp hk Zx1)
  have x1_216 := Aside0.mk (x1_204.out.kp hk Zx1)
  have g0_217 := Aside0.mk (g0_205.out.kp hk Zx1)
  have bg0_218 := Aside0.mk (bg0_206.out.kp hk Zx1)
  have S3_219 := Aside0.mk (S3_197.out.kp hk Zx1)
  have HB_220 := Aside0.mk (below_kp HB_207.out hk Zx1 HB_207.out.size)
  have Z_221 := Aside0.mk (hk.kept.1)
  clear arg_198 brg_199 w0_200 bw0_201 x0_202 x1_204 g0_205 bg0_206 S3_197 HB_207 hk
  obtain ⟨bg0221c0, bg0221c1, bg0221c2, bg0221c3, bg0221c4, bg0221c5, bg0221c6, bg0221c7, bg0221c8, bg0221c9⟩ := bg0_218.out.cells10
  obtain ⟨bw0222c0, bw0222c1, bw0222c2, bw0222c3, bw0222c4, bw0222c5, bw0222c6, bw0222c7, bw0222c8, bw0222c9⟩ := bw0_214.out.cells10
  go_wp2_with fail
  clear bg0221c0 bg0221c1 bg0221c2 bg0221c3 bg0221c4 bg0221c5 bg0221c6 bg0221c7 bg0221c8 bg0221c9 bw0222c0 bw0222c1 bw0222c2 bw0222c3 bw0222c4 bw0222c5 bw0222c6 bw0222c7 bw0222c8 bw0222c9
  refine (eqE_callD k e1 e2 c1 s1 lo1 hi1 g0_217.out.rd w0_213.out.rd EQ1.out).mono ?_
  rintro e w13 ⟨rfl, hb⟩
  have arg_224 := Aside0.mk (arg_211.out.below hb)
  have brg_225 := Aside0.mk (brg_212.out.below hb)
  have w0_226 := Aside0.mk (w0_213.out.below hb)
  have bw0_227 := Aside0.mk (bw0_214.out.below hb)
  have x0_228 := Aside0.mk (x0_215.out.below hb)
  have x1_229 := Aside0.mk (x1_216.out.below hb)
  have g0_230 := Aside0.mk (g0_217.out.below hb)
  have bg0_231 := Aside0.mk (bg0_218.out.below hb)
  have S3_232 := Aside0.mk (S3_219.out.below hb)
  have S4_233 := Aside0.mk (S4_210.out.below hb)
  have HB_234 := Aside0.mk (below_step HB_220.out hb)
  have Z_235 := Aside0.mk (hb.size)
  clear arg_211 brg_212 w0_213 bw0_214 x0_215 x1_216 g0_217 bg0_218 S3_219 S4_210 HB_220 hb
  obtain ⟨bg0235c0, bg0235c1, bg0235c2, bg0235c3, bg0235c4, bg0235c5, bg0235c6, bg0235c7, bg0235c8, bg0235c9⟩ := bg0_231.out.cells10
  go_wp2_with fail
  clear bg0235c0 bg0235c1 bg0235c2 bg0235c3 bg0235c4 bg0235c5 bg0235c6 bg0235c7 bg0235c8 bg0235c9
  refine (markE_call k MK e1 e2 c1 s1 lo1 hi1 1 K1 M1 g0_230.out Zx0 Zx0 hK1 ME1 LM1).mono ?_
  rintro e w14 ⟨rfl, hs, hk⟩
  have g0_237 := Aside0.mk hs
  clear hs
  clear g0_230
  have arg_238 := Aside0.mk (arg_224.out.kp hk Zx0)
  have brg_239 := Aside0.mk (brg_225.out.kp hk Zx0)
  have w0_240 := Aside0.mk (w0_226.out.kp hk Zx0)
  have bw0_241 := Aside0.mk (bw0_227.out.kp hk Zx0)
  have x0_242 := Aside0.mk (x0_228.out.kp hk Zx0)
  have x1_243 := Aside0.mk (x1_229.out.kp hk Zx0)
  have bg0_244 := Aside0.mk (bg0_231.out.kp hk Zx0)
  have S3_245 := Aside0.mk (S3_232.out.kp hk Zx0)
  have S4_246 := Aside0.mk (S4_233.out.kp hk Zx0)
  have HB_247 := Aside0.mk (below_kp HB_234.out hk Zx0 HB_234.out.size)
  have Z_248 := Aside0.mk (hk.kept.1)
  clear arg_224 brg_225 w0_226 bw0_227 x0_228 x1_229 bg0_231 S3_232 S4_233 HB_234 hk
  obtain ⟨bg0248c0, bg0248c1, bg0248c2, bg0248c3, bg0248c4, bg0248c5, bg0248c6, bg0248c7, bg0248c8, bg0248c9⟩ := bg0_244.out.cells10
  go_wp2_with fail
  clear bg0248c0 bg0248c1 bg0248c2 bg0248c3 bg0248c4 bg0248c5 bg0248c6 bg0248c7 bg0248c8 bg0248c9
  refine (heldE_callD k e1 e2 c1 s1 lo1 hi1 1 M1 g0_237.out.rd HE.out).mono ?_
  rintro e w15 ⟨rfl, hb⟩
  have arg_250 := Aside0.mk (arg_238.out.below hb)
  have brg_251 := Aside0.mk (brg_239.out.below hb)
  have w0_252 := Aside0.mk (w0_240.out.below hb)
  have bw0_253 := Aside0.mk (bw0_241.out.below hb)
  have x0_254 := Aside0.mk (x0_242.out.below hb)
  have x1_255 := Aside0.mk (x1_243.out.below hb)
  have bg0_256 := Aside0.mk (bg0_244.out.below hb)
  have S3_257 := Aside0.mk (S3_245.out.below hb)
  have S4_258 := Aside0.mk (S4_246.out.below hb)
  have g0_259 := Aside0.mk (g0_237.out.below hb)
  have HB_260 := Aside0.mk (below_step HB_247.out hb)
  have Z_261 := Aside0.mk (hb.size)
  clear arg_238 brg_239 w0_240 bw0_241 x0_242 x1_243 bg0_244 S3_245 S4_246 g0_237 HB_247 hb
  go_upto_region 31 with (fail)
  go_cut [15, 16] (fun v0 v1 wc => ∃ (gbh0 : Nat) (q8 : Sl) (x8 : Sl) (y8 : Sl) (z8 : Sl) (a8 b8 : Nat), v0 = .pointer (some ⟨gbh0, 0, none⟩) ∧ v1 = .bool t ∧ Aside0 (Ek wc a8 b8 q8 x8 y8 z8 l1 h1 r1 R1 ∧ Bx wc gbh0 34 #[.int .i64 e1, .int .i64 e2, .slice q8.A q8.n q8.c, .int .i64 c1, .int .i64 s1, .int .i64 lo1, .int .i64 hi1, .slice x8.A x8.n x8.c, .slice y8.A y8.n y8.c, .slice z8.A z8.n z8.c] ∧ Below w15.heap.size w15 wc ∧ w15.heap.size ≤ gbh0 ∧ gbh0 < wc.heap.size ∧ w15.heap.size ≤ a8 ∧ a8 ≤ b8 ∧ b8 ≤ wc.heap.size))
  case first =>
    have LS := Aside0.mk (show ∀ w', Below w15.heap.size w15 w' → w'.cell? ⟨w.heap.size, 0, none⟩ = some (.int .i64 ke) ∧ w'.cell? ⟨w.heap.size, 1, none⟩ = some (.int .i64 wi) ∧ w'.cell? ⟨w.heap.size, 2, none⟩ = some (.slice q.A q.n q.c) ∧ w'.cell? ⟨w.heap.size, 3, none⟩ = some (.int .i64 c) ∧ w'.cell? ⟨w.heap.size, 4, none⟩ = some (.int .i64 s) ∧ w'.cell? ⟨w.heap.size, 5, none⟩ = some (.int .i64 lo) ∧ w'.cell? ⟨w.heap.size, 6, none⟩ = some (.int .i64 hi) ∧ w'.cell? ⟨w.heap.size, 7, none⟩ = some (.slice x.A x.n x.c) ∧ w'.cell? ⟨w.heap.size, 8, none⟩ = some (.slice y.A y.n y.c) ∧ w'.cell? ⟨w.heap.size, 9, none⟩ = some (.slice z.A z.n z.c) ∧ w'.cell? ⟨w.heap.size + 1, 0, none⟩ = some (.int .i64 ke') ∧ w'.cell? ⟨w.heap.size + 1, 1, none⟩ = some (.int .i64 wi') ∧ w'.cell? ⟨w.heap.size + 1, 2, none⟩ = some (.slice q'.A q'.n q'.c) ∧ w'.cell? ⟨w.heap.size + 1, 3, none⟩ = some (.int .i64 c') ∧ w'.cell? ⟨w.heap.size + 1, 4, none⟩ = some (.int .i64 s') ∧ w'.cell? ⟨w.heap.size + 1, 5, none⟩ = some (.int .i64 lo') ∧ w'.cell? ⟨w.heap.size + 1, 6, none⟩ = some (.int .i64 hi') ∧ w'.cell? ⟨w.heap.size + 1, 7, none⟩ = some (.slice x'.A x'.n x'.c) ∧ w'.cell? ⟨w.heap.size + 1, 8, none⟩ = some (.slice y'.A y'.n y'.c) ∧ w'.cell? ⟨w.heap.size + 1, 9, none⟩ = some (.slice z'.A z'.n z'.c) from fun w' F => by
      obtain ⟨argq0, argq1, argq2, argq3, argq4, argq5, argq6, argq7, argq8, argq9⟩ := (arg_250.out.below F).cells10
      obtain ⟨brgq0, brgq1, brgq2, brgq3, brgq4, brgq5, brgq6, brgq7, brgq8, brgq9⟩ := (brg_251.out.below F).cells10
      exact ⟨argq0, argq1, argq2, argq3, argq4, argq5, argq6, argq7, argq8, argq9, brgq0, brgq1, brgq2, brgq3, brgq4, brgq5, brgq6, brgq7, brgq8, brgq9⟩)
    have UA_ := Aside0.mk (U0.out.below HB_260.out)
    have UB_ := Aside0.mk (U1.out.below HB_260.out)
    have HQ0 := Aside0.mk (show Below w15.heap.size w15 w15.drew from below_drew (Below.refl _ _))
    go_region_held3 (fun w' => w'.cell? ⟨w.heap.size, 0, none⟩ = some (.int .i64 ke) ∧ w'.cell? ⟨w.heap.size, 1, none⟩ = some (.int .i64 wi) ∧ w'.cell? ⟨w.heap.size, 2, none⟩ = some (.slice q.A q.n q.c) ∧ w'.cell? ⟨w.heap.size, 3, none⟩ = some (.int .i64 c) ∧ w'.cell? ⟨w.heap.size, 4, none⟩ = some (.int .i64 s) ∧ w'.cell? ⟨w.heap.size, 5, none⟩ = some (.int .i64 lo) ∧ w'.cell? ⟨w.heap.size, 6, none⟩ = some (.int .i64 hi) ∧ w'.cell? ⟨w.heap.size, 7, none⟩ = some (.slice x.A x.n x.c) ∧ w'.cell? ⟨w.heap.size, 8, none⟩ = some (.slice y.A y.n y.c) ∧ w'.cell? ⟨w.heap.size, 9, none⟩ = some (.slice z.A z.n z.c) ∧ w'.cell? ⟨w.heap.size + 1, 0, none⟩ = some (.int .i64 ke') ∧ w'.cell? ⟨w.heap.size + 1, 1, none⟩ = some (.int .i64 wi') ∧ w'.cell? ⟨w.heap.size + 1, 2, none⟩ = some (.slice q'.A q'.n q'.c) ∧ w'.cell? ⟨w.heap.size + 1, 3, none⟩ = some (.int .i64 c') ∧ w'.cell? ⟨w.heap.size + 1, 4, none⟩ = some (.int .i64 s') ∧ w'.cell? ⟨w.heap.size + 1, 5, none⟩ = some (.int .i64 lo') ∧ w'.cell? ⟨w.heap.size + 1, 6, none⟩ = some (.int .i64 hi') ∧ w'.cell? ⟨w.heap.size + 1, 7, none⟩ = some (.slice x'.A x'.n x'.c) ∧ w'.cell? ⟨w.heap.size + 1, 8, none⟩ = some (.slice y'.A y'.n y'.c) ∧ w'.cell? ⟨w.heap.size + 1, 9, none⟩ = some (.slice z'.A z'.n z'.c)) (first | with_reducible exact FL.out _ _ _ _ _ _ _ _ _ _ | with_reducible exact LS.out _ HQ0.out | with_reducible exact LS.out _ (below_drew (below_alloc (Below.refl _ _) _)) | with_reducible exact LS.out _ (below_step HQ0.out (below_alloc (Below.refl _ _) _)) | with_reducible exact LS.out _ HQ1.out | with_reducible exact LS.out _ (below_step HQ1.out (below_alloc (Below.refl _ _) _)) | with_reducible exact LS.out _ HQ2.out | with_reducible exact LS.out _ (below_step HQ2.out (below_alloc (Below.refl _ _) _)) | with_reducible exact LS.out _ HQ3.out | with_reducible exact LS.out _ (below_step HQ3.out (below_alloc (Below.refl _ _) _)) | with_reducible exact LS.out _ (below_kp (below_step HQ3.out (below_alloc (Below.refl _ _) _)) ((Bx.new wq3 34 #[.int .i64 0, .int .i64 0, .slice none 0 0, .int .i64 0, .int .i64 0, .int .i64 0, .int .i64 0, .slice none 0 0, .slice none 0 0, .slice none 0 0]).fill10 _ _ _ _ _ _ _ _ _ _).2 HQ3.out.size (Nat.le_trans HQ3.out.size (sz_up _ _)))) (first | (go_at_call 32; (with_reducible refine (toE_callD k ke wi c s lo hi j (by first | exact UA_.out.below HQ0.out | exact UA_.out.below (below_drew (below_alloc (Below.refl _ _) _))) TO.out).mono ?_); rintro e wq1 ⟨q31, x31, y31, z31, a31, b31, rfl, hs, hm, hb⟩; (first | ((with_reducible have hz_ := reg_new HQ0.out hb hm); obtain ⟨hq, hy, hn, hp⟩ := hz_; have Y1 := Aside0.mk hy; have HQ1 := Aside0.mk hq; have M1 := Aside0.mk hn; have HP1 := Aside0.mk hp; clear hq hy hn hp) | ((with_reducible have hz_ := reg_new0 hb hm); obtain ⟨hq, hy, hn, hp⟩ := hz_; have Y1 := Aside0.mk hy; have HQ1 := Aside0.mk hq; have M1 := Aside0.mk hn; have HP1 := Aside0.mk hp; clear hq hy hn hp) | ((with_reducible have HQ1 := Aside0.mk (below_step HQ0.out hb)); have M1 := Aside0.mk hm; have HP1 := Aside0.mk hb)); have S31 := Aside0.mk hs; clear hs hm hb) | (go_at_call 32; (with_reducible refine (toE_callD k ke' wi' c' s' lo' hi' j' (by first | exact UB_.out.below HQ1.out | exact UB_.out.below (below_step HQ1.out (below_alloc (Below.refl _ _) _))) TO'.out).mono ?_); rintro e wq2 ⟨q32, x32, y32, z32, a32, b32, rfl, hs, hm, hb⟩; (first | ((with_reducible have hz_ := reg_new HQ1.out hb hm); obtain ⟨hq, hy, hn, hp⟩ := hz_; have Y2 := Aside0.mk hy; have HQ2 := Aside0.mk hq; have M2 := Aside0.mk hn; have HP2 := Aside0.mk hp; clear hq hy hn hp) | ((with_reducible have hz_ := reg_old HQ1.out Y1.out hb hm); obtain ⟨hq, hy⟩ := hz_; have Y2 := Aside0.mk hy; have HQ2 := Aside0.mk hq; have M2 := Aside0.mk hm; have HP2 := Aside0.mk hb; clear hq hy) | ((with_reducible have HQ2 := Aside0.mk (below_step HQ1.out hb)); have M2 := Aside0.mk hm; have HP2 := Aside0.mk hb)); have S32 := Aside0.mk hs; clear hs hm hb; replace S31 := Aside0.mk (S31.out.below HP2.out)) | (go_at_call 27; (with_reducible refine (implA_callD k ke wi c s lo hi ke' wi' c' s' lo' hi' e1 e2 c1 s1 lo1 hi1 l1 h1 r1 R1 t (by first | exact S31.out.rd | exact (S31.out.below (below_alloc (Below.refl _ _) _)).rd) (by first | exact S32.out.rd | exact (S32.out.below (below_alloc (Below.refl _ _) _)).rd) II.out).mono ?_); rintro e wq3 ⟨q8, x8, y8, z8, a8, b8, rfl, hs, hm, hb⟩; (first | ((with_reducible have hz_ := reg_new HQ2.out hb hm); obtain ⟨hq, hy, hn, hp⟩ := hz_; have Y3 := Aside0.mk hy; have HQ3 := Aside0.mk hq; have M3 := Aside0.mk hn; have HP3 := Aside0.mk hp; clear hq hy hn hp) | ((with_reducible have hz_ := reg_old HQ2.out Y2.out hb hm); obtain ⟨hq, hy⟩ := hz_; have Y3 := Aside0.mk hy; have HQ3 := Aside0.mk hq; have M3 := Aside0.mk hm; have HP3 := Aside0.mk hb; clear hq hy) | ((with_reducible have HQ3 := Aside0.mk (below_step HQ2.out hb)); have M3 := Aside0.mk hm; have HP3 := Aside0.mk hb)); have h0 := Aside0.mk hs; clear hs hm hb; replace S31 := Aside0.mk (S31.out.below HP3.out); replace S32 := Aside0.mk (S32.out.below HP3.out); (first | (obtain ⟨cz0, cz1, cz2, cz3, cz4, cz5, cz6, cz7, cz8, cz9⟩ := Y3.out.bx.cells10; have cf := fun i => Bx.fz Y3.out.bx i; have FL := Aside0.mk (fun u0_ u1_ u2_ u3_ u4_ u5_ u6_ u7_ u8_ u9_ => LS.out _ (below_kp HQ3.out (Y3.out.bx.fill10 u0_ u1_ u2_ u3_ u4_ u5_ u6_ u7_ u8_ u9_).2 Y3.out.lo HQ3.out.size))) | skip)))
    all_goals
      refine Met.intro ?_
      go_step
      go_meet
      case rel =>
        first | (have FE := fun u0_ u1_ u2_ u3_ u4_ u5_ u6_ u7_ u8_ u9_ => reg_end_ek HQ3.out Y3.out ⟨Nat.le_trans (Nat.le_trans HQ2.out.size (Nat.le_refl _)) M3.out.1, M3.out.2⟩ h0.out (Y3.out.bx.fill10 u0_ u1_ u2_ u3_ u4_ u5_ u6_ u7_ u8_ u9_); refine ⟨_, q8, x8, y8, z8, a8, b8, rfl, rfl, ⟨?_⟩⟩; exact FE (.int .i64 e1) (.int .i64 e2) (.slice q8.A q8.n q8.c) (.int .i64 c1) (.int .i64 s1) (.int .i64 lo1) (.int .i64 hi1) (.slice x8.A x8.n x8.c) (.slice y8.A y8.n y8.c) (.slice z8.A z8.n z8.c)) | (have FE := reg_last_ek #[.int .i64 e1, .int .i64 e2, .slice q8.A q8.n q8.c, .int .i64 c1, .int .i64 s1, .int .i64 lo1, .int .i64 hi1, .slice x8.A x8.n x8.c, .slice y8.A y8.n y8.c, .slice z8.A z8.n z8.c] 34 HQ3.out ⟨Nat.le_trans (Nat.le_trans HQ2.out.size (Nat.le_refl _)) M3.out.1, M3.out.2⟩ h0.out; refine ⟨_, q8, x8, y8, z8, a8, b8, rfl, rfl, ⟨?_⟩⟩; exact FE)
  case rest =>
  obtain ⟨gbh0, q8, x8, y8, z8, a8, b8, rfl, rfl, ⟨hs, hx, hb, hz1, hz2, hz3, hz4, hz5⟩⟩ := hcut
  generalize wc = wc262 at *
  have h0_263 := Aside0.mk hs
  clear hs
  have bh0_264 := Aside0.mk hx
  clear hx
  have Z_265 := Aside0.mk hz1
  clear hz1
  have Z_266 := Aside0.mk hz2
  clear hz2
  have Z_267 := Aside0.mk hz3
  clear hz3
  have Z_268 := Aside0.mk hz4
  clear hz4
  have Z_269 := Aside0.mk hz5
  clear hz5
  have arg_270 := Aside0.mk (arg_250.out.below hb)
  have brg_271 := Aside0.mk (brg_251.out.below hb)
  have w0_272 := Aside0.mk (w0_252.out.below hb)
  have bw0_273 := Aside0.mk (bw0_253.out.below hb)
  have x0_274 := Aside0.mk (x0_254.out.below hb)
  have x1_275 := Aside0.mk (x1_255.out.below hb)
  have bg0_276 := Aside0.mk (bg0_256.out.below hb)
  have S3_277 := Aside0.mk (S3_257.out.below hb)
  have S4_278 := Aside0.mk (S4_258.out.below hb)
  have g0_279 := Aside0.mk (g0_259.out.below hb)
  have HB_280 := Aside0.mk (below_step HB_260.out hb)
  have Z_281 := Aside0.mk (hb.size)
  clear arg_250 brg_251 w0_252 bw0_253 x0_254 x1_255 bg0_256 S3_257 S4_258 g0_259 HB_260 hb
  obtain ⟨bh0281c0, bh0281c1, bh0281c2, bh0281c3, bh0281c4, bh0281c5, bh0281c6, bh0281c7, bh0281c8, bh0281c9⟩ := bh0_264.out.cells10
  obtain ⟨bw0282c0, bw0282c1, bw0282c2, bw0282c3, bw0282c4, bw0282c5, bw0282c6, bw0282c7, bw0282c8, bw0282c9⟩ := bw0_273.out.cells10
  go_wp2_with fail
  clear bh0281c0 bh0281c1 bh0281c2 bh0281c3 bh0281c4 bh0281c5 bh0281c6 bh0281c7 bh0281c8 bh0281c9 bw0282c0 bw0282c1 bw0282c2 bw0282c3 bw0282c4 bw0282c5 bw0282c6 bw0282c7 bw0282c8 bw0282c9
  refine (eqE_callD k e1 e2 c1 s1 lo1 hi1 h0_263.out.rd w0_272.out.rd EQ1.out).mono ?_
  rintro e w16 ⟨rfl, hb⟩
  have arg_284 := Aside0.mk (arg_270.out.below hb)
  have brg_285 := Aside0.mk (brg_271.out.below hb)
  have w0_286 := Aside0.mk (w0_272.out.below hb)
  have bw0_287 := Aside0.mk (bw0_273.out.below hb)
  have x0_288 := Aside0.mk (x0_274.out.below hb)
  have x1_289 := Aside0.mk (x1_275.out.below hb)
  have bg0_290 := Aside0.mk (bg0_276.out.below hb)
  have S3_291 := Aside0.mk (S3_277.out.below hb)
  have S4_292 := Aside0.mk (S4_278.out.below hb)
  have g0_293 := Aside0.mk (g0_279.out.below hb)
  have h0_294 := Aside0.mk (h0_263.out.below hb)
  have bh0_295 := Aside0.mk (bh0_264.out.below hb)
  have HB_296 := Aside0.mk (below_step HB_280.out hb)
  have Z_297 := Aside0.mk (hb.size)
  clear arg_270 brg_271 w0_272 bw0_273 x0_274 x1_275 bg0_276 S3_277 S4_278 g0_279 h0_263 bh0_264 HB_280 hb
  obtain ⟨bg0297c0, bg0297c1, bg0297c2, bg0297c3, bg0297c4, bg0297c5, bg0297c6, bg0297c7, bg0297c8, bg0297c9⟩ := bg0_290.out.cells10
  go_wp2_with fail
  clear bg0297c0 bg0297c1 bg0297c2 bg0297c3 bg0297c4 bg0297c5 bg0297c6 bg0297c7 bg0297c8 bg0297c9
  refine (heldE_callD k e1 e2 c1 s1 lo1 hi1 1 M1 g0_293.out.rd HE.out).mono ?_
  rintro e w17 ⟨rfl, hb⟩
  have arg_299 := Aside0.mk (arg_284.out.below hb)
  have brg_300 := Aside0.mk (brg_285.out.below hb)
  have w0_301 := Aside0.mk (w0_286.out.below hb)
  have bw0_302 := Aside0.mk (bw0_287.out.below hb)
  have x0_303 := Aside0.mk (x0_288.out.below hb)
  have x1_304 := Aside0.mk (x1_289.out.below hb)
  have bg0_305 := Aside0.mk (bg0_290.out.below hb)
  have S3_306 := Aside0.mk (S3_291.out.below hb)
  have S4_307 := Aside0.mk (S4_292.out.below hb)
  have g0_308 := Aside0.mk (g0_293.out.below hb)
  have h0_309 := Aside0.mk (h0_294.out.below hb)
  have bh0_310 := Aside0.mk (bh0_295.out.below hb)
  have HB_311 := Aside0.mk (below_step HB_296.out hb)
  have Z_312 := Aside0.mk (hb.size)
  clear arg_284 brg_285 w0_286 bw0_287 x0_288 x1_289 bg0_290 S3_291 S4_292 g0_293 h0_294 bh0_295 HB_296 hb
  go_wp2
  go_ret
  exact ⟨rfl, HB_311.out⟩

set_option maxHeartbeats 8000000 in
theorem law1 (k : Nat) (V ke wi c s lo hi ke' wi' c' s' lo' hi' : Int) (q x y z q' x' y' z' : Sl) (l : List S113) (h r : List Int) (R : List (List Int)) (w : World) (u : Ad w q x y z l h r R)
    (SZ : Aside0 (laws_szEntry.f k ke wi l c s lo hi h r R 1048576 = some V)) (hV : decide (V < 0) = true) :
    Calls Try.prog 6 #[.agg #[.int .i64 ke, .int .i64 wi, .slice q.A q.n q.c, .int .i64 c, .int .i64 s, .int .i64 lo, .int .i64 hi, .slice x.A x.n x.c, .slice y.A y.n y.c, .slice z.A z.n z.c], .agg #[.int .i64 ke', .int .i64 wi', .slice q'.A q'.n q'.c, .int .i64 c', .int .i64 s', .int .i64 lo', .int .i64 hi', .slice x'.A x'.n x'.c, .slice y'.A y'.n y'.c, .slice z'.A z'.n z'.c]] w fun e w' => e = .returned (.bool true) ∧ Below w.heap.size w w' := by
  have U0 := Aside0.mk u
  clear u
  go_enter Try.func6, Try.ntmps6
  have hal := Aside0.mk (below_alloc (Below.refl _ w) (.cells #[.int .i64 ke, .int .i64 wi, .slice q.A q.n q.c, .int .i64 c, .int .i64 s, .int .i64 lo, .int .i64 hi, .slice x.A x.n x.c, .slice y.A y.n y.c, .slice z.A z.n z.c] 61))
  have HB_1 := Aside0.mk (hal.out)
  have Z_2 := Aside0.mk (show (w.alloc (.cells #[.int .i64 ke, .int .i64 wi, .slice q.A q.n q.c, .int .i64 c, .int .i64 s, .int .i64 lo, .int .i64 hi, .slice x.A x.n x.c, .slice y.A y.n y.c, .slice z.A z.n z.c] 61)).heap.size = w.heap.size + 1 by simp)
  have arg_3 := Aside0.mk (Bx.new w 61 #[.int .i64 ke, .int .i64 wi, .slice q.A q.n q.c, .int .i64 c, .int .i64 s, .int .i64 lo, .int .i64 hi, .slice x.A x.n x.c, .slice y.A y.n y.c, .slice z.A z.n z.c])
  clear hal
  have hal := Aside0.mk (below_alloc (Below.refl _ (w.alloc (.cells #[.int .i64 ke, .int .i64 wi, .slice q.A q.n q.c, .int .i64 c, .int .i64 s, .int .i64 lo, .int .i64 hi, .slice x.A x.n x.c, .slice y.A y.n y.c, .slice z.A z.n z.c] 61))) (.cells #[.int .i64 ke', .int .i64 wi', .slice q'.A q'.n q'.c, .int .i64 c', .int .i64 s', .int .i64 lo', .int .i64 hi', .slice x'.A x'.n x'.c, .slice y'.A y'.n y'.c, .slice z'.A z'.n z'.c] 61))
  have arg_4 := Aside0.mk (arg_3.out.below hal.out)
  have HB_5 := Aside0.mk (below_step HB_1.out hal.out)
  have Z_6 := Aside0.mk (show ((w.alloc (.cells #[.int .i64 ke, .int .i64 wi, .slice q.A q.n q.c, .int .i64 c, .int .i64 s, .int .i64 lo, .int .i64 hi, .slice x.A x.n x.c, .slice y.A y.n y.c, .slice z.A z.n z.c] 61)).alloc (.cells #[.int .i64 ke', .int .i64 wi', .slice q'.A q'.n q'.c, .int .i64 c', .int .i64 s', .int .i64 lo', .int .i64 hi', .slice x'.A x'.n x'.c, .slice y'.A y'.n y'.c, .slice z'.A z'.n z'.c] 61)).heap.size = w.heap.size + 1 + 1 by simp)
  have brg_7 := Aside0.mk ((show Bx ((w.alloc (.cells #[.int .i64 ke, .int .i64 wi, .slice q.A q.n q.c, .int .i64 c, .int .i64 s, .int .i64 lo, .int .i64 hi, .slice x.A x.n x.c, .slice y.A y.n y.c, .slice z.A z.n z.c] 61)).alloc (.cells #[.int .i64 ke', .int .i64 wi', .slice q'.A q'.n q'.c, .int .i64 c', .int .i64 s', .int .i64 lo', .int .i64 hi', .slice x'.A x'.n x'.c, .slice y'.A y'.n y'.c, .slice z'.A z'.n z'.c] 61)) (w.heap.size + 1) 61 #[.int .i64 ke', .int .i64 wi', .slice q'.A q'.n q'.c, .int .i64 c', .int .i64 s', .int .i64 lo', .int .i64 hi', .slice x'.A x'.n x'.c, .slice y'.A y'.n y'.c, .slice z'.A z'.n z'.c] from (show (w.alloc (.cells #[.int .i64 ke, .int .i64 wi, .slice q.A q.n q.c, .int .i64 c, .int .i64 s, .int .i64 lo, .int .i64 hi, .slice x.A x.n x.c, .slice y.A y.n y.c, .slice z.A z.n z.c] 61)).heap.size = w.heap.size + 1 by simp) ▸ Bx.new (w.alloc (.cells #[.int .i64 ke, .int .i64 wi, .slice q.A q.n q.c, .int .i64 c, .int .i64 s, .int .i64 lo, .int .i64 hi, .slice x.A x.n x.c, .slice y.A y.n y.c, .slice z.A z.n z.c] 61)) 61 #[.int .i64 ke', .int .i64 wi', .slice q'.A q'.n q'.c, .int .i64 c', .int .i64 s', .int .i64 lo', .int .i64 hi', .slice x'.A x'.n x'.c, .slice y'.A y'.n y'.c, .slice z'.A z'.n z'.c]))
  clear arg_3 HB_1 hal
  go_wp2_with fail
  refine (szE_callD k ke wi c s lo hi 1048576 V (U0.out.below HB_5.out) SZ.out).mono ?_
  rintro e w1 ⟨rfl, hb⟩
  have arg_8 := Aside0.mk (arg_4.out.below hb)
  have brg_9 := Aside0.mk (brg_7.out.below hb)
  have HB_10 := Aside0.mk (below_step HB_5.out hb)
  have Z_11 := Aside0.mk (hb.size)
  clear arg_4 brg_7 HB_5 hb
  go_wp2
  go_ret
  exact ⟨rfl, HB_10.out⟩

set_option maxHeartbeats 8000000 in
theorem law2 (k : Nat) (V V' ke wi c s lo hi ke' wi' c' s' lo' hi' : Int) (q x y z q' x' y' z' : Sl) (l l' : List S113) (h r h' r' : List Int) (R R' : List (List Int)) (w : World) (u : Ad w q x y z l h r R) (u' : Ad w q' x' y' z' l' h' r' R')
    (SZ : Aside0 (laws_szEntry.f k ke wi l c s lo hi h r R 1048576 = some V)) (hV : decide (V < 0) = false) (SZ' : Aside0 (laws_szEntry.f k ke' wi' l' c' s' lo' hi' h' r' R' V = some V')) (hV' : decide (V' < 0) = true) :
    Calls Try.prog 6 #[.agg #[.int .i64 ke, .int .i64 wi, .slice q.A q.n q.c, .int .i64 c, .int .i64 s, .int .i64 lo, .int .i64 hi, .slice x.A x.n x.c, .slice y.A y.n y.c, .slice z.A z.n z.c], .agg #[.int .i64 ke', .int .i64 wi', .slice q'.A q'.n q'.c, .int .i64 c', .int .i64 s', .int .i64 lo', .int .i64 hi', .slice x'.A x'.n x'.c, .slice y'.A y'.n y'.c, .slice z'.A z'.n z'.c]] w fun e w' => e = .returned (.bool true) ∧ Below w.heap.size w w' := by
  have U0 := Aside0.mk u
  have U1 := Aside0.mk u'
  clear u u'
  go_enter Try.func6, Try.ntmps6
  have hal := Aside0.mk (below_alloc (Below.refl _ w) (.cells #[.int .i64 ke, .int .i64 wi, .slice q.A q.n q.c, .int .i64 c, .int .i64 s, .int .i64 lo, .int .i64 hi, .slice x.A x.n x.c, .slice y.A y.n y.c, .slice z.A z.n z.c] 61))
  have HB_1 := Aside0.mk (hal.out)
  have Z_2 := Aside0.mk (show (w.alloc (.cells #[.int .i64 ke, .int .i64 wi, .slice q.A q.n q.c, .int .i64 c, .int .i64 s, .int .i64 lo, .int .i64 hi, .slice x.A x.n x.c, .slice y.A y.n y.c, .slice z.A z.n z.c] 61)).heap.size = w.heap.size + 1 by simp)
  have arg_3 := Aside0.mk (Bx.new w 61 #[.int .i64 ke, .int .i64 wi, .slice q.A q.n q.c, .int .i64 c, .int .i64 s, .int .i64 lo, .int .i64 hi, .slice x.A x.n x.c, .slice y.A y.n y.c, .slice z.A z.n z.c])
  clear hal
  have hal := Aside0.mk (below_alloc (Below.refl _ (w.alloc (.cells #[.int .i64 ke, .int .i64 wi, .slice q.A q.n q.c, .int .i64 c, .int .i64 s, .int .i64 lo, .int .i64 hi, .slice x.A x.n x.c, .slice y.A y.n y.c, .slice z.A z.n z.c] 61))) (.cells #[.int .i64 ke', .int .i64 wi', .slice q'.A q'.n q'.c, .int .i64 c', .int .i64 s', .int .i64 lo', .int .i64 hi', .slice x'.A x'.n x'.c, .slice y'.A y'.n y'.c, .slice z'.A z'.n z'.c] 61))
  have arg_4 := Aside0.mk (arg_3.out.below hal.out)
  have HB_5 := Aside0.mk (below_step HB_1.out hal.out)
  have Z_6 := Aside0.mk (show ((w.alloc (.cells #[.int .i64 ke, .int .i64 wi, .slice q.A q.n q.c, .int .i64 c, .int .i64 s, .int .i64 lo, .int .i64 hi, .slice x.A x.n x.c, .slice y.A y.n y.c, .slice z.A z.n z.c] 61)).alloc (.cells #[.int .i64 ke', .int .i64 wi', .slice q'.A q'.n q'.c, .int .i64 c', .int .i64 s', .int .i64 lo', .int .i64 hi', .slice x'.A x'.n x'.c, .slice y'.A y'.n y'.c, .slice z'.A z'.n z'.c] 61)).heap.size = w.heap.size + 1 + 1 by simp)
  have brg_7 := Aside0.mk ((show Bx ((w.alloc (.cells #[.int .i64 ke, .int .i64 wi, .slice q.A q.n q.c, .int .i64 c, .int .i64 s, .int .i64 lo, .int .i64 hi, .slice x.A x.n x.c, .slice y.A y.n y.c, .slice z.A z.n z.c] 61)).alloc (.cells #[.int .i64 ke', .int .i64 wi', .slice q'.A q'.n q'.c, .int .i64 c', .int .i64 s', .int .i64 lo', .int .i64 hi', .slice x'.A x'.n x'.c, .slice y'.A y'.n y'.c, .slice z'.A z'.n z'.c] 61)) (w.heap.size + 1) 61 #[.int .i64 ke', .int .i64 wi', .slice q'.A q'.n q'.c, .int .i64 c', .int .i64 s', .int .i64 lo', .int .i64 hi', .slice x'.A x'.n x'.c, .slice y'.A y'.n y'.c, .slice z'.A z'.n z'.c] from (show (w.alloc (.cells #[.int .i64 ke, .int .i64 wi, .slice q.A q.n q.c, .int .i64 c, .int .i64 s, .int .i64 lo, .int .i64 hi, .slice x.A x.n x.c, .slice y.A y.n y.c, .slice z.A z.n z.c] 61)).heap.size = w.heap.size + 1 by simp) ▸ Bx.new (w.alloc (.cells #[.int .i64 ke, .int .i64 wi, .slice q.A q.n q.c, .int .i64 c, .int .i64 s, .int .i64 lo, .int .i64 hi, .slice x.A x.n x.c, .slice y.A y.n y.c, .slice z.A z.n z.c] 61)) 61 #[.int .i64 ke', .int .i64 wi', .slice q'.A q'.n q'.c, .int .i64 c', .int .i64 s', .int .i64 lo', .int .i64 hi', .slice x'.A x'.n x'.c, .slice y'.A y'.n y'.c, .slice z'.A z'.n z'.c]))
  clear arg_3 HB_1 hal
  go_wp2_with fail
  refine (szE_callD k ke wi c s lo hi 1048576 V (U0.out.below HB_5.out) SZ.out).mono ?_
  rintro e w1 ⟨rfl, hb⟩
  have arg_8 := Aside0.mk (arg_4.out.below hb)
  have brg_9 := Aside0.mk (brg_7.out.below hb)
  have HB_10 := Aside0.mk (below_step HB_5.out hb)
  have Z_11 := Aside0.mk (hb.size)
  clear arg_4 brg_7 HB_5 hb
  obtain ⟨brg11c0, brg11c1, brg11c2, brg11c3, brg11c4, brg11c5, brg11c6, brg11c7, brg11c8, brg11c9⟩ := brg_9.out.cells10
  go_wp2_with fail
  clear brg11c0 brg11c1 brg11c2 brg11c3 brg11c4 brg11c5 brg11c6 brg11c7 brg11c8 brg11c9
  refine (szE_callD k ke' wi' c' s' lo' hi' V V' (U1.out.below HB_10.out) SZ'.out).mono ?_
  rintro e w2 ⟨rfl, hb⟩
  have arg_13 := Aside0.mk (arg_8.out.below hb)
  have brg_14 := Aside0.mk (brg_9.out.below hb)
  have HB_15 := Aside0.mk (below_step HB_10.out hb)
  have Z_16 := Aside0.mk (hb.size)
  clear arg_8 brg_9 HB_10 hb
  go_wp2
  go_ret
  exact ⟨rfl, HB_15.out⟩

set_option maxRecDepth 100000 in
theorem law {G G' : Prop} (ke wi : Int) (A2 : Option Addr) (c2 : Nat) (l : List S113) (c s lo hi : Int) (A4 : Option Addr) (c4 : Nat) (h : List Int) (A5 : Option Addr) (c5 : Nat) (r : List Int) (A6 : Option Addr) (c6 : Nat) (R : List (List Int)) (ke' wi' : Int) (B2 : Option Addr) (d2 : Nat) (l' : List S113) (c' s' lo' hi' : Int) (B4 : Option Addr) (d4 : Nat) (h' : List Int) (B5 : Option Addr) (d5 : Nat) (r' : List Int) (B6 : Option Addr) (d6 : Nat) (R' : List (List Int)) (w : World)
    (C2 : k113.C w A2 l.length l) (l2 : l.length ≤ c2) (C4 : (Kd.int .i64).C w A4 h.length h) (l4 : h.length ≤ c4) (C5 : (Kd.int .i64).C w A5 r.length r) (l5 : r.length ≤ c5) (C6 : (Kd.slice 3 (Kd.int .i64)).C w A6 R.length R) (l6 : R.length ≤ c6)
    (E2 : k113.C w B2 l'.length l') (m2 : l'.length ≤ d2) (E4 : (Kd.int .i64).C w B4 h'.length h') (m4 : h'.length ≤ d4) (E5 : (Kd.int .i64).C w B5 r'.length r') (m5 : r'.length ≤ d5) (E6 : (Kd.slice 3 (Kd.int .i64)).C w B6 R'.length R') (m6 : R'.length ≤ d6)
    (_ : -9223372036854775808 ≤ ke ∧ ke ≤ 9223372036854775807) (_ : -9223372036854775808 ≤ wi ∧ wi ≤ 9223372036854775807) (hl : l.length ≤ 9223372036854775807 ∧ G) (_ : -9223372036854775808 ≤ c ∧ c ≤ 9223372036854775807) (_ : -9223372036854775808 ≤ s ∧ s ≤ 9223372036854775807) (_ : -9223372036854775808 ≤ lo ∧ lo ≤ 9223372036854775807) (_ : -9223372036854775808 ≤ hi ∧ hi ≤ 9223372036854775807) (hh : h.length ≤ 9223372036854775807 ∧ ∀ x ∈ h, (-9223372036854775808 ≤ x ∧ x ≤ 9223372036854775807)) (hr : r.length ≤ 9223372036854775807 ∧ ∀ x ∈ r, (-9223372036854775808 ≤ x ∧ x ≤ 9223372036854775807)) (hR : R.length ≤ 9223372036854775807 ∧ ∀ l ∈ R, (l.length ≤ 9223372036854775807 ∧ ∀ x ∈ l, (-9223372036854775808 ≤ x ∧ x ≤ 9223372036854775807)))
    (_ : -9223372036854775808 ≤ ke' ∧ ke' ≤ 9223372036854775807) (_ : -9223372036854775808 ≤ wi' ∧ wi' ≤ 9223372036854775807) (hl' : l'.length ≤ 9223372036854775807 ∧ G') (_ : -9223372036854775808 ≤ c' ∧ c' ≤ 9223372036854775807) (_ : -9223372036854775808 ≤ s' ∧ s' ≤ 9223372036854775807) (_ : -9223372036854775808 ≤ lo' ∧ lo' ≤ 9223372036854775807) (_ : -9223372036854775808 ≤ hi' ∧ hi' ≤ 9223372036854775807) (hh' : h'.length ≤ 9223372036854775807 ∧ ∀ x ∈ h', (-9223372036854775808 ≤ x ∧ x ≤ 9223372036854775807)) (hr' : r'.length ≤ 9223372036854775807 ∧ ∀ x ∈ r', (-9223372036854775808 ≤ x ∧ x ≤ 9223372036854775807)) (hR' : R'.length ≤ 9223372036854775807 ∧ ∀ l ∈ R', (l.length ≤ 9223372036854775807 ∧ ∀ x ∈ l, (-9223372036854775808 ≤ x ∧ x ≤ 9223372036854775807))) :
    Calls Try.prog 6 #[.agg #[.int .i64 ke, .int .i64 wi, .slice A2 l.length c2, .int .i64 c, .int .i64 s, .int .i64 lo, .int .i64 hi, .slice A4 h.length c4, .slice A5 r.length c5, .slice A6 R.length c6], .agg #[.int .i64 ke', .int .i64 wi', .slice B2 l'.length d2, .int .i64 c', .int .i64 s', .int .i64 lo', .int .i64 hi', .slice B4 h'.length d4, .slice B5 r'.length d5, .slice B6 R'.length d6]] w fun e w' => e = .returned (.bool true) ∧ Below w.heap.size w w' := by
  have u : Ad w ⟨A2, l.length, c2⟩ ⟨A4, h.length, c4⟩ ⟨A5, r.length, c5⟩ ⟨A6, R.length, c6⟩ l h r R := ⟨rfl, l2, C2, ⟨rfl, rfl, rfl, l4, l5, l6, C4, C5, C6⟩⟩
  have u' : Ad w ⟨B2, l'.length, d2⟩ ⟨B4, h'.length, d4⟩ ⟨B5, r'.length, d5⟩ ⟨B6, R'.length, d6⟩ l' h' r' R' := ⟨rfl, m2, E2, ⟨rfl, rfl, rfl, m4, m5, m6, E4, E5, E6⟩⟩
  obtain ⟨V, hv, hle, hall⟩ := szEntry_all ke wi l c s lo hi h r R 1048576 (by omega) (by omega) hl.1 hh.1 hr.1 hR.1 (fun x hx => (hR.2 x hx).1)
  by_cases hneg : V < 0
  · obtain ⟨K, hK⟩ := hv
    have q1 : laws_szEntry.f K ke wi l c s lo hi h r R 1048576 = some V := hK K (Nat.le_refl _)
    have q2 : decide (V < 0) = true := decide_eq_true hneg
    have q3 := law1 K V ke wi c s lo hi ke' wi' c' s' lo' hi' _ _ _ _ ⟨B2, l'.length, d2⟩ ⟨B4, h'.length, d4⟩ ⟨B5, r'.length, d5⟩ ⟨B6, R'.length, d6⟩ l h r R w u ⟨q1⟩ q2
    exact q3
  obtain ⟨V', hv', hle', hall'⟩ := szEntry_all ke' wi' l' c' s' lo' hi' h' r' R' V (by omega) (by omega) hl'.1 hh'.1 hr'.1 hR'.1 (fun x hx => (hR'.2 x hx).1)
  by_cases hneg' : V' < 0
  · obtain ⟨K, hK⟩ := hv
    obtain ⟨K', hK'⟩ := hv'
    have q1 : laws_szEntry.f (K + K') ke wi l c s lo hi h r R 1048576 = some V := hK (K + K') (by omega)
    have q2 : decide (V < 0) = false := decide_eq_false (by omega)
    have q3 : laws_szEntry.f (K + K') ke' wi' l' c' s' lo' hi' h' r' R' V = some V' := hK' (K + K') (by omega)
    have q4 : decide (V' < 0) = true := decide_eq_true hneg'
    have q5 := law2 (K + K') V V' ke wi c s lo hi ke' wi' c' s' lo' hi' _ _ _ _ _ _ _ _ l l' h r h' r' R R' w u u' ⟨q1⟩ q2 ⟨q3⟩ q4
    exact q5
  · obtain ⟨⟨b1, b2, b3, b4⟩, b5⟩ := hall (by omega)
    obtain ⟨⟨b1', b2', b3', b4'⟩, b5'⟩ := hall' (by omega)
    have n1 : l.length ≤ 1048576 := by omega
    have n1' : l'.length ≤ 1048576 := by omega
    obtain ⟨j, hj⟩ : ∃ j, j = l.map cvSpan := ⟨_, rfl⟩
    obtain ⟨j', hj'⟩ : ∃ j, j = l'.map cvSpan := ⟨_, rfl⟩
    have nj : j.length = l.length := by rw [hj, List.length_map]
    have nj' : j'.length = l'.length := by rw [hj', List.length_map]
    obtain ⟨K1, h1⟩ := hv
    obtain ⟨K1', h1'⟩ := hv'
    obtain ⟨K2, h2⟩ := toEntry_ev ke wi l c s lo hi h r R n1 b1 b2 b3 b4
    obtain ⟨K2', h2'⟩ := toEntry_ev ke' wi' l' c' s' lo' hi' h' r' R' n1' b1' b2' b3' b4'
    rw [← hj] at h2
    rw [← hj'] at h2'
    clear hj hj'
    obtain ⟨K5, h5⟩ := eqEntry_ev ke wi j c s lo hi h r R (by omega) b1 b2 b3 b4
    obtain ⟨K5', h5'⟩ := eqEntry_ev ke' wi' j' c' s' lo' hi' h' r' R' (by omega) b1' b2' b3' b4'
    obtain ⟨e1, e2, l1, c1, s1, lo1, hi1, g1, r1, R1, t, ee⟩ : ∃ e1 e2 l1 c1 s1 lo1 hi1 g1 r1 R1 t, addE ke wi j c s lo hi h r R ke' wi' j' c' s' lo' hi' h' r' R' = (e1, e2, l1, c1, s1, lo1, hi1, g1, r1, R1, t) := ⟨_, _, _, _, _, _, _, _, _, _, _, rfl⟩
    obtain ⟨d0, d1, d2_, d3, d4_, d5_⟩ := addE_lens ke wi j c s lo hi h r R ke' wi' j' c' s' lo' hi' h' r' R' ee b4
    have q3 := specA_of ke wi j c s lo hi h r R ke' wi' j' c' s' lo' hi' h' r' R' (by omega) (by omega) ee
    have q4 := implA_of ke wi j c s lo hi h r R ke' wi' j' c' s' lo' hi' h' r' R' (by omega) (by omega) ee
    obtain ⟨K6, h6⟩ := eqEntry_ev e1 e2 l1 c1 s1 lo1 hi1 g1 r1 R1 (by omega) (by omega) (by omega) (by omega) d5_
    obtain ⟨K7, h7⟩ := heldEntry_ev e1 e2 c1 s1 lo1 hi1 1 l1.length g1.length r1.length R1 (by omega) (by omega) (by omega) (by omega) (by omega) d5_
    obtain ⟨K8, h8⟩ := markSpanS_ev j 1 (by omega)
    obtain ⟨K8', h8'⟩ := markSpanS_ev j' (1 + 2 * j.length + h.length + r.length + lensII R) (by omega)
    obtain ⟨K9, h9⟩ := markSpanS_ev l1 1 (by omega)
    generalize hK : K1 + K1' + K2 + K2' + K5 + K5' + K6 + K7 + K8 + K8' + K9 + 1048577 = k
    have q1 := h1 k (by omega)
    have q1' := h1' k (by omega)
    have q2 := h2 k (by omega)
    have q2' := h2' k (by omega)
    have q5 := h5 k (by omega)
    have q5' := h5' k (by omega)
    have q6 := h6 k (by omega)
    have q7 := h7 k (by omega)
    have q8 := h8 k (by omega)
    have q8' := h8' k (by omega)
    have q9 := h9 k (by omega)
    have q10 : MkI k := mkI k (by omega)
    have f1 : decide (V < 0) = false := decide_eq_false (by omega)
    have f1' : decide (V' < 0) = false := decide_eq_false (by omega)
    have f2 : decide (((1 + 2 * j.length + h.length + r.length + lensII R + 2 * j'.length + h'.length + r'.length + lensII R' : Nat) : Int) < 0) = false := decide_eq_false (by omega)
    have f3 : decide (((1 + 2 * l1.length : Nat) : Int) + (g1.length : Int) + (r1.length : Int) + (lensII R1 : Nat) < 0) = false := decide_eq_false (by omega)
    have L := law0 k V V' ((1 + 2 * j.length : Nat) : Int) ((1 + 2 * j.length + h.length + r.length + lensII R : Nat) : Int) ((1 + 2 * j.length + h.length + r.length + lensII R + 2 * j'.length : Nat) : Int) ((1 + 2 * j.length + h.length + r.length + lensII R + 2 * j'.length + h'.length + r'.length + lensII R' : Nat) : Int) ((1 + 2 * l1.length : Nat) : Int) (((1 + 2 * l1.length : Nat) : Int) + (g1.length : Int) + (r1.length : Int) + (lensII R1 : Nat)) ke wi c s lo hi ke' wi' c' s' lo' hi' e1 e2 c1 s1 lo1 hi1 t _ _ _ _ _ _ _ _ l l' j j' l1 _ _ (msp 1 l1.length) h r h' r' g1 r1 R R' R1 w u u'
      ⟨q1⟩ f1 ⟨q1'⟩ f1' ⟨q2⟩ ⟨q2'⟩ ⟨q3⟩ ⟨q4⟩ ⟨q5⟩ ⟨q5'⟩ ⟨q6⟩ ⟨q10⟩ ⟨q8⟩ (by omega) ⟨by omega, by omega, b1, b2, b3, b4⟩ ⟨q8'⟩ (by omega) ⟨by omega, by omega, b1', b2', b3', b4'⟩ f2 ⟨q9⟩ (by omega) ⟨rfl, by omega, by omega, by omega, by omega, d5_⟩ f3 ⟨q7⟩
    exact L

end Go.Proofs.Ytdciagkholijlaa.HFnExactEntryAdd
