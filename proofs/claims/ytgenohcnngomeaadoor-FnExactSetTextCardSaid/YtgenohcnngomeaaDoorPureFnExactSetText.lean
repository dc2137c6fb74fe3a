/- SetText of the program is SetText of the reference, for all arguments, and leaves its argument as it was. -/
import Derived.Test.YtgenohcnngomeaaDoorPFnExactSetTextx2
import Derived.Test.YtgenohcnngomeaaDoorAid
import Derived.Lib.ItoaLen
namespace Go.Proofs.YtgenohcnngomeaaDoor.Pure
open Go Go.RowKit Go.Proofs.YtgenohcnngomeaaDoor.PFnExactSetText Go.Proofs.YtgenohcnngomeaaDoorW.PrintWords Go.Proofs.YtgenohcnngomeaaDoorW.PrintLast Go.Proofs.YtgenohcnngomeaaDoorW.PrintMore Go.Proofs.YtgenohcnngomeaaDoor.Aid

/-- The decimal digits of a number; none of zero. -/
def digs (u : Nat) : List UInt8 := if u = 0 then [] else Lib.decDigits u
theorem digs_step (u : Nat) (h : u ≠ 0) : digs u = digs (u / 10) ++ [UInt8.ofNat (48 + u % 10)] := by
  unfold digs
  rw [if_neg h, Lib.decDigits]
  by_cases h10 : u < 10
  · rw [dif_pos h10, if_pos (by omega), show u % 10 = u by omega]
    rfl
  · rw [dif_neg h10, if_neg (by omega)]
theorem digs_len (u : Nat) (h : u ≠ 0) : (digs u).length = (digs (u / 10)).length + 1 := by rw [digs_step u h]; simp
theorem bytes_app (a b : List UInt8) : (⟨a.toArray⟩ : ByteArray) ++ ⟨b.toArray⟩ = ⟨(a ++ b).toArray⟩ := by
  apply ByteArray.ext
  simp
theorem bytes_size (a : List UInt8) : (⟨a.toArray⟩ : ByteArray).size = a.length := by simp [ByteArray.size]
theorem spec_digits_at : ∀ (m u : Nat) (x : Int) (bb : Bool) (l : List UInt8), u ≤ m → u ≤ 9223372036854775808 → (x = (u : Int) ∧ u < 9223372036854775808 ∨ x = -(u : Int)) → (digs u).length + l.length ≤ 1000 →
    Ev (fun k => spec_Digits.l0 k x bb ⟨l.toArray⟩) ⟨((if bb = true then [45] else []) ++ (digs u ++ l)).toArray⟩ := by
  have done_ : ∀ (x : Int) (bb : Bool) (l : List UInt8), x = 0 → l.length ≤ 1000 → Ev (fun k => spec_Digits.l0 k x bb ⟨l.toArray⟩) ⟨((if bb = true then [45] else []) ++ (digs 0 ++ l)).toArray⟩ := by
    intro x bb l hx hl
    refine Ev.step (fun _ => rfl) ?_
    simp only [spec_Digits.l0]
    refine ev_pos hx ?_
    cases bb with
    | false => exact ev_neg (by simp) (ev_some (by simp [digs]))
    | true =>
      refine ev_pos rfl (ev_pos (by rw [bytes_size]; omega) (ev_some ?_))
      have := bytes_app [45] l
      simpa [digs] using this
  intro m
  induction m with
  | zero =>
    intro u x bb l hu _ hx hl
    obtain rfl : u = 0 := by omega
    exact done_ x bb l (by omega) (by omega)
  | succ m ih =>
    intro u x bb l hu hb hx hl
    by_cases h0 : u = 0
    · subst h0
      exact done_ x bb l (by omega) (by omega)
    have hL := digs_len u h0
    have h10 : u / 10 ≤ m := by omega
    have ih' := ih (u / 10) (Int.tdiv x 10) bb (UInt8.ofNat (48 + u % 10) :: l) h10 (by omega) (by
      rcases hx with ⟨rfl, hx⟩ | rfl
      · left
        rw [Int.tdiv_eq_ediv_of_nonneg (by omega)]
        omega
      · right
        rw [Int.neg_tdiv, Int.tdiv_eq_ediv_of_nonneg (by omega)]
        omega) (by simp only [List.length_cons]; omega)
    have hd : -9223372036854775808 ≤ Int.tdiv x 10 ∧ Int.tdiv x 10 ≤ 9223372036854775807 := by
      rcases hx with ⟨rfl, hx⟩ | rfl
      · rw [Int.tdiv_eq_ediv_of_nonneg (by omega)]
        omega
      · rw [Int.neg_tdiv, Int.tdiv_eq_ediv_of_nonneg (by omega)]
        omega
    have ht : Int.tmod x 10 = ((u % 10 : Nat) : Int) ∨ Int.tmod x 10 = -((u % 10 : Nat) : Int) := by
      rcases hx with ⟨rfl, hx⟩ | rfl
      · left
        rw [Int.tmod_eq_emod_of_nonneg (by omega)]
        omega
      · right
        rw [Int.neg_tmod, Int.tmod_eq_emod_of_nonneg (by omega)]
        omega
    have e : ∀ z : Int, z = ((48 + u % 10 : Nat) : Int) → strOfNums [z] = ⟨[UInt8.ofNat (48 + u % 10)].toArray⟩ := by
      rintro z rfl
      rfl
    have hr : (if bb = true then [45] else []) ++ (digs (u / 10) ++ UInt8.ofNat (48 + u % 10) :: l) = (if bb = true then [45] else []) ++ (digs u ++ l) := by
      rw [digs_step u h0]
      simp
    rw [hr] at ih'
    refine Ev.step (fun _ => rfl) ?_
    simp only [spec_Digits.l0, Option.bind_some]
    refine ev_neg (by omega) ?_
    rw [w64 (x := Int.tdiv x 10) hd.1 hd.2]
    generalize Int.tmod x 10 = t at ht
    have hm : u % 10 < 10 := Nat.mod_lt _ (by omega)
    generalize u % 10 = v at *
    refine ev_if (fun hn => ?_) (fun hn => ?_)
    · rw [w64 (x := -t) (by omega) (by omega), w64 (x := 48 + -t) (by omega) (by omega), e _ (by omega)]
      refine ev_pos (by rw [bytes_size, bytes_size]; simp only [List.length_cons, List.length_nil]; omega) ?_
      rw [bytes_app]
      exact ih'
    · rw [w64 (x := 48 + t) (by omega) (by omega), e _ (by omega)]
      refine ev_pos (by rw [bytes_size, bytes_size]; simp only [List.length_cons, List.length_nil]; omega) ?_
      rw [bytes_app]
      exact ih'
theorem spec_digits_ev (n : Int) (h0 : -9223372036854775808 ≤ n) (h1 : n ≤ 9223372036854775807) : Ev (fun k => spec_Digits.f k n) ⟨(Lib.itoa n).toArray⟩ := by
  unfold spec_Digits.f
  refine ev_if (fun h => ev_some ?_) (fun h => ?_)
  · subst h
    apply ByteArray.ext
    unfold Lib.itoa
    rw [if_neg (by omega), Lib.decDigits, dif_pos (by omega)]
    rfl
  · have hl := Lib.itoa_length_le n h0 h1
    have hi : Lib.itoa n = (if decide (n < 0) = true then [45] else []) ++ (digs n.natAbs ++ []) := by
      unfold Lib.itoa digs
      have hz : ¬ n.natAbs = 0 := by omega
      by_cases hn : n < 0
      · rw [if_pos hn, if_neg hz, decide_eq_true hn, if_pos rfl]
        simp
      · rw [if_neg hn, if_neg hz, decide_eq_false hn, if_neg (by simp), show n.toNat = n.natAbs by omega]
        simp
    rw [hi] at hl ⊢
    simp only [List.length_append] at hl
    exact spec_digits_at n.natAbs n.natAbs n (decide (n < 0)) [] (by omega) (by omega) (by omega) (by simp only [List.length_nil]; omega)
theorem impl_digits_is (n : Int) (h0 : -9223372036854775808 ≤ n) (h1 : n ≤ 9223372036854775807) : impl_Digits.f n = some ⟨(Lib.itoa n).toArray⟩ := by
  unfold impl_Digits.f
  rw [if_pos ⟨h0, h1⟩]
theorem rdI_get {xs : List S49} {n : Nat} (h : n < xs.length) : rd_T49 xs (n : Int) = xs[n] := by
  unfold rd_T49
  rw [Int.toNat_natCast, List.getD_eq_getElem?_getD, List.getElem?_eq_getElem h]
  rfl
theorem rdL_get {xs : List S51} {n : Nat} (h : n < xs.length) : rd_T51 xs (n : Int) = xs[n] := by
  unfold rd_T51
  rw [Int.toNat_natCast, List.getD_eq_getElem?_getD, List.getElem?_eq_getElem h]
  rfl
def cvSpan (x : S51) : S49 := ⟨x.f0, x.f1⟩
theorem toSpanS_at (x0 : List S51) (hn : x0.length ≤ 1048576) (d : Nat) : ∀ (i : Nat) (x3 : List S49), i + d = x0.length → x3.length = x0.length → x3.take i = (x0.map cvSpan).take i →
    Ev (fun k => laws_toSpanS.l0 k x0 x3 (i : Int)) (x0.map cvSpan) := by
  induction d with
  | zero =>
    intro i x3 hi hl ht
    refine Ev.step (fun _ => rfl) ?_
    simp only [laws_toSpanS.l0]
    exact ev_neg (by omega) (ev_some (take_all (by rw [hl, List.length_map]) (by rw [List.length_map]; omega) ht))
  | succ d ih =>
    intro i x3 hi hl ht
    refine Ev.step (fun _ => rfl) ?_
    simp only [laws_toSpanS.l0]
    refine ev_pos (by omega) (ev_pos (by omega) (ev_bind0 rfl (ev_pos (by omega) ?_)))
    rw [wsucc (by omega), rdL_get (show i < x0.length by omega), Int.toNat_natCast]
    have e : (⟨x0[i].f0, x0[i].f1⟩ : S49) = (x0.map cvSpan)[i]'(by rw [List.length_map]; omega) := by rw [List.getElem_map]; rfl
    rw [e]
    exact ih (i + 1) _ (by omega) (by rw [List.length_set]; exact hl) (take_set (ys := x0.map cvSpan) (by rw [hl, List.length_map]) (by rw [List.length_map]; omega) ht)
theorem toSpanS_ev (x0 : List S51) (hn : x0.length ≤ 1048576) : Ev (fun k => laws_toSpanS.f k x0) (x0.map cvSpan) := by
  unfold laws_toSpanS.f
  refine ev_pos (by omega) (ev_pos (by omega) ?_)
  exact toSpanS_at x0 hn x0.length 0 _ (by omega) (by simp) (by simp)
theorem szSpanS_is (l0 : List S51) (a : Int) (h0 : 0 ≤ a) (h1 : a ≤ 1048576) (hl : l0.length ≤ 9223372036854775807) : laws_szSpanS.f l0 a = some (if a < l0.length then -1 else a - l0.length) := by
  unfold laws_szSpanS.f
  rw [w64 (by omega) (by omega)]
  by_cases h : a < l0.length
  · rw [if_pos (by omega), if_pos h]
  · rw [if_neg (by omega), if_neg h]
theorem eqSpanS_at (x0 : List S49) (hn : x0.length ≤ 1048576) (d : Nat) : ∀ (i : Nat), i + d = x0.length →
    Ev (fun k => laws_eqSpanS.l0 k x0 x0 (i : Int)) true := by
  induction d with
  | zero =>
    intro i hi
    refine Ev.step (fun _ => rfl) ?_
    simp only [laws_eqSpanS.l0]
    exact ev_neg (by omega) (ev_some rfl)
  | succ d ih =>
    intro i hi
    refine Ev.step (fun _ => rfl) ?_
    simp only [laws_eqSpanS.l0]
    refine ev_pos (by omega) (ev_pos (by omega) (ev_pos (by omega) (ev_bind0 (a := true) (by unfold laws_eqSpan.f; rw [if_pos rfl, if_pos rfl]) (ev_pos (by trivial) ?_))))
    rw [wsucc (by omega)]
    exact ih (i + 1) (by omega)
theorem eqSpanS_ev (x0 : List S49) (hn : x0.length ≤ 1048576) : Ev (fun k => laws_eqSpanS.f k x0 x0) true := by
  unfold laws_eqSpanS.f
  exact ev_pos (by trivial) (eqSpanS_at x0 hn x0.length 0 (by omega))
/-! ### a set's text -/
def txt (x : S49) : List UInt8 := Lib.itoa x.f0 ++ (if x.f1 = x.f0 then [] else 45 :: Lib.itoa x.f1)
theorem join_snoc (l : List (List UInt8)) (x sep : List UInt8) : Lib.join (l ++ [x]) sep = if l = [] then x else Lib.join l sep ++ (sep ++ x) := by
  cases l with
  | nil => rw [if_pos rfl, List.nil_append, Lib.join_one]
  | cons y r =>
    rw [if_neg (by simp), List.cons_append, Lib.join_cons, Lib.join_cons]
    simp [Lib.joinTail]
theorem join_small (l : List (List UInt8)) (n : Nat) (h : ∀ x ∈ l, x.length ≤ n) : (Lib.join l [44]).length ≤ (n + 1) * l.length := by
  cases l with
  | nil => simp [Lib.join_nil]
  | cons x r =>
    rw [Lib.join_length]
    have key : ∀ r : List (List UInt8), (∀ x ∈ r, x.length ≤ n) → Lib.lens r ≤ n * r.length := by
      intro r
      induction r with
      | nil => intro _; simp [Lib.lens]
      | cons y r ih =>
        intro hy
        have h1 := ih (fun z hz => hy z (List.mem_cons_of_mem _ hz))
        have h2 := hy y List.mem_cons_self
        have e : Lib.lens (y :: r) = y.length + Lib.lens r := by simp [Lib.lens]
        rw [e, List.length_cons, Nat.mul_succ]
        omega
    have := key (x :: r) h
    have e : (n + 1) * (r.length + 1) = n * (r.length + 1) + (r.length + 1) := by rw [Nat.add_mul, Nat.one_mul]
    simp only [List.length_cons, List.length_nil] at this ⊢
    rw [e]
    omega
def rgS (s : List S49) : Prop := ∀ x ∈ s, (-9223372036854775808 ≤ x.f0 ∧ x.f0 ≤ 9223372036854775807) ∧ (-9223372036854775808 ≤ x.f1 ∧ x.f1 ≤ 9223372036854775807)
theorem txt_len (x : S49) (h : (-9223372036854775808 ≤ x.f0 ∧ x.f0 ≤ 9223372036854775807) ∧ (-9223372036854775808 ≤ x.f1 ∧ x.f1 ≤ 9223372036854775807)) : (txt x).length ≤ 43 := by
  have h1 := Lib.itoa_length_le x.f0 h.1.1 h.1.2
  have h2 := Lib.itoa_length_le x.f1 h.2.1 h.2.2
  unfold txt
  rw [List.length_append]
  split
  · simp only [List.length_nil]; omega
  · simp only [List.length_cons]; omega
def jn (s : List S49) : List UInt8 := Lib.join (s.map txt) [44]
theorem jn_len (s : List S49) (h : rgS s) : (jn s).length ≤ 44 * s.length := by
  have := join_small (s.map txt) 43 (fun x hx => by
    obtain ⟨y, hy, rfl⟩ := List.mem_map.1 hx
    exact txt_len y (h y hy))
  rw [List.length_map] at this
  exact this
theorem jn_step (s : List S49) (i : Nat) (hi : i < s.length) : jn (s.take (i + 1)) = if i = 0 then txt s[i] else jn (s.take i) ++ (44 :: txt s[i]) := by
  unfold jn
  rw [List.take_succ_eq_append_getElem hi, List.map_append, List.map_cons, List.map_nil, join_snoc]
  by_cases h0 : i = 0
  · subst h0
    simp
  · rw [if_neg h0, if_neg (fun e => by
      have := congrArg List.length e
      rw [List.length_map, List.length_take, List.length_nil] at this
      omega)]
    rfl
theorem spec_setText_at (s : List S49) (hs : s.length ≤ 1048576) (hr : rgS s) (d : Nat) : ∀ i : Nat, i + d = s.length →
    Ev (fun k => spec_SetText.l0 k s ⟨(jn (s.take i)).toArray⟩ (i : Int)) ⟨(jn s).toArray⟩ := by
  induction d with
  | zero =>
    intro i hi
    refine Ev.step (fun _ => rfl) ?_
    simp only [spec_SetText.l0]
    exact ev_neg (by omega) (ev_some (by rw [show i = s.length by omega, List.take_length]))
  | succ d ih =>
    intro i hi
    have hil : i < s.length := by omega
    have hx := hr _ (List.getElem_mem hil)
    have hj := jn_len (s.take i) (fun x hx => hr x (List.mem_of_mem_take hx))
    rw [List.length_take] at hj
    have h1 := Lib.itoa_length_le s[i].f0 hx.1.1 hx.1.2
    have h2 := Lib.itoa_length_le s[i].f1 hx.2.1 hx.2.2
    have key : ∀ pre : List UInt8, pre.length ≤ 50000000 → pre ++ txt s[i] = jn (s.take (i + 1)) → Ev (fun k => spec_SetText.j1 k s ⟨pre.toArray⟩ (i : Int)) ⟨(jn s).toArray⟩ := by
      intro pre hp he
      refine Ev.step (fun _ => rfl) ?_
      simp only [spec_SetText.j1]
      rw [rdI_get hil, wsucc (by omega)]
      refine ev_pos (by omega) (ev_pos (by omega) (Ev.bind (spec_digits_ev s[i].f0 hx.1.1 hx.1.2) (ev_pos (by rw [bytes_size, bytes_size]; omega) ?_)))
      rw [bytes_app]
      by_cases e : s[i].f1 = s[i].f0
      · refine ev_pos e ?_
        have : pre ++ Lib.itoa s[i].f0 = jn (s.take (i + 1)) := by rw [← he]; unfold txt; rw [if_pos e, List.append_nil]
        rw [this]
        exact ih (i + 1) (by omega)
      · refine ev_neg e (ev_pos (by rw [bytes_size, List.length_append]; omega) (Ev.bind (spec_digits_ev s[i].f1 hx.2.1 hx.2.2) ?_))
        have e45 : (⟨(pre ++ Lib.itoa s[i].f0).toArray⟩ : ByteArray) ++ (⟨#[45]⟩ : ByteArray) = ⟨((pre ++ Lib.itoa s[i].f0) ++ [45]).toArray⟩ := bytes_app (pre ++ Lib.itoa s[i].f0) [45]
        rw [e45, bytes_app]
        refine ev_pos (by rw [bytes_size, bytes_size]; simp only [List.length_append, List.length_cons, List.length_nil]; omega) ?_
        have : pre ++ Lib.itoa s[i].f0 ++ [45] ++ Lib.itoa s[i].f1 = jn (s.take (i + 1)) := by rw [← he]; unfold txt; rw [if_neg e]; simp
        rw [this]
        exact ih (i + 1) (by omega)
    refine Ev.step (fun _ => rfl) ?_
    simp only [spec_SetText.l0]
    refine ev_pos (by omega) ?_
    by_cases h0 : i = 0
    · refine ev_neg (by omega) (key _ (by omega) ?_)
      rw [jn_step s i hil, if_pos h0]
      subst h0
      simp [jn, Lib.join_nil]
    · refine ev_pos (by omega) (ev_pos (by rw [bytes_size]; omega) ?_)
      have e44 : (⟨(jn (s.take i)).toArray⟩ : ByteArray) ++ (⟨#[44]⟩ : ByteArray) = ⟨(jn (s.take i) ++ [44]).toArray⟩ := bytes_app (jn (s.take i)) [44]
      rw [e44]
      refine key _ (by rw [List.length_append]; simp only [List.length_cons, List.length_nil]; omega) ?_
      rw [jn_step s i hil, if_neg h0]
      simp
theorem spec_setText_ev (s : List S49) (hs : s.length ≤ 1048576) (hr : rgS s) : Ev (fun k => spec_SetText.f k s) ⟨(jn s).toArray⟩ := by
  unfold spec_SetText.f
  have := spec_setText_at s hs hr s.length 0 (by omega)
  rw [List.take_zero] at this
  exact this
def tx (x : S49) : ByteArray := ⟨(txt x).toArray⟩
theorem tx_map (s : List S49) : (s.map tx).map (·.data.toList) = s.map txt := by
  rw [List.map_map]
  refine List.map_congr_left (fun x _ => ?_)
  simp [tx]
theorem impl_setText_at (s : List S49) (hs : s.length ≤ 1048576) (hr : rgS s) (d : Nat) : ∀ i : Nat, i + d = s.length →
    Ev (fun k => impl_SetText.l0 k ((s.take i).map tx) s (s.length : Int) (i : Int)) ⟨(jn s).toArray⟩ := by
  induction d with
  | zero =>
    intro i hi
    refine Ev.step (fun _ => rfl) ?_
    simp only [impl_SetText.l0]
    refine ev_neg (by omega) (ev_bind0 (a := (⟨(jn s).toArray⟩ : ByteArray)) ?_ (ev_some rfl))
    rw [show i = s.length by omega, List.take_length]
    have hj := jn_len s hr
    have e : (Lib.join ((s.map tx).map (·.data.toList)) (⟨#[44]⟩ : ByteArray).data.toList) = jn s := by rw [tx_map]; rfl
    unfold strings_Join.f joinB
    rw [e, if_pos ⟨by rw [List.length_map]; omega, by omega⟩]
  | succ d ih =>
    intro i hi
    have hil : i < s.length := by omega
    have hx := hr _ (List.getElem_mem hil)
    have h1 := Lib.itoa_length_le s[i].f0 hx.1.1 hx.1.2
    have h2 := Lib.itoa_length_le s[i].f1 hx.2.1 hx.2.2
    refine Ev.step (fun _ => rfl) ?_
    simp only [impl_SetText.l0]
    rw [rdI_get hil, wsucc (by omega)]
    have hnext : ∀ t : ByteArray, t = tx s[i] → Ev (fun k => if ((s.take i).map tx).length < 8796093022208 then impl_SetText.l0 k ((s.take i).map tx ++ [t]) s (s.length : Int) ((i + 1 : Nat) : Int) else none) ⟨(jn s).toArray⟩ := by
      intro t ht
      refine ev_pos (by rw [List.length_map, List.length_take]; omega) ?_
      have : (s.take i).map tx ++ [t] = (s.take (i + 1)).map tx := by rw [List.take_succ_eq_append_getElem hil, List.map_append, ht]; rfl
      rw [this]
      exact ih (i + 1) (by omega)
    refine ev_pos (by omega) (ev_pos (by omega) (ev_pos (by omega) (ev_bind0 (impl_digits_is s[i].f0 hx.1.1 hx.1.2) ?_)))
    by_cases e : s[i].f1 = s[i].f0
    · exact ev_pos e (hnext _ (by unfold tx txt; rw [if_pos e, List.append_nil]))
    · refine ev_neg e (ev_bind0 (impl_digits_is s[i].f1 hx.2.1 hx.2.2) (ev_pos (by rw [bytes_size]; omega) ?_))
      have e45 : (⟨#[45]⟩ : ByteArray) ++ (⟨(Lib.itoa s[i].f1).toArray⟩ : ByteArray) = ⟨(45 :: Lib.itoa s[i].f1).toArray⟩ := bytes_app [45] (Lib.itoa s[i].f1)
      rw [e45, bytes_app]
      refine ev_pos (by rw [bytes_size, bytes_size, List.length_cons]; omega) (hnext _ (by unfold tx txt; rw [if_neg e]))
theorem impl_setText_ev (s : List S49) (hs : s.length ≤ 1048576) (hr : rgS s) : Ev (fun k => impl_SetText.f k s) ⟨(jn s).toArray⟩ := by
  unfold impl_SetText.f
  have := impl_setText_at s hs hr s.length 0 (by omega)
  rw [List.take_zero, List.map_nil] at this
  exact this
theorem FnExactSetText : laws_FnExactSetText.Pure := by
  intro l h
  refine (?_ : Ev (fun k => laws_FnExactSetText.f k l) true).rounds
  unfold laws_FnExactSetText.f
  refine ev_bind0 (szSpanS_is l 1048576 (by omega) (by omega) h.1) ?_
  by_cases hl : (1048576 : Int) < l.length
  · rw [if_pos hl]
    exact ev_pos (by omega) (ev_some rfl)
  rw [if_neg hl]
  have hn : l.length ≤ 1048576 := by omega
  have hm : (l.map cvSpan).length ≤ 1048576 := by rw [List.length_map]; exact hn
  have hr : rgS (l.map cvSpan) := fun x hx => by
    obtain ⟨y, hy, rfl⟩ := List.mem_map.1 hx
    exact h.2 y hy
  have T := toSpanS_ev l hn
  refine ev_neg (by omega) (Ev.bind T (Ev.bind (spec_setText_ev _ hm hr) (Ev.bind T (Ev.bind (impl_setText_ev _ hm hr) (ev_pos rfl ?_)))))
  exact Ev.bind T (Ev.bind (eqSpanS_ev _ hm) (ev_pos (by trivial) (ev_some rfl)))

end Go.Proofs.YtgenohcnngomeaaDoor.Pure
