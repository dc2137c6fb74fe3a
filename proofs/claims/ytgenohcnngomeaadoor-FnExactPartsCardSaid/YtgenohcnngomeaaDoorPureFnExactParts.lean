/- Parts of the program is Parts of the reference, for all arguments, and what it hands back is memory of its own. -/
import Derived.Test.YtgenohcnngomeaaDoorPFnExactPartsx2
import Derived.Test.YtgenohcnngomeaaDoorAid
namespace Go.Proofs.YtgenohcnngomeaaDoor.Pure
open Go Go.RowKit Go.Proofs.YtgenohcnngomeaaDoor.PFnExactParts Go.Proofs.YtgenohcnngomeaaDoorW.PrintWords Go.Proofs.YtgenohcnngomeaaDoorW.PrintLast Go.Proofs.YtgenohcnngomeaaDoorW.PrintMore Go.Proofs.YtgenohcnngomeaaDoor.Aid

/-! ### a text's parts -/
def parts (c : UInt8) : List UInt8 → List (List UInt8)
  | [] => [[]]
  | x :: r => if x = c then [] :: parts c r else (match parts c r with | [] => [[x]] | h :: t => (x :: h) :: t)
theorem parts_ne (c : UInt8) (l : List UInt8) : parts c l ≠ [] := by
  cases l with
  | nil => simp [parts]
  | cons x r =>
    unfold parts
    split
    · simp
    · split <;> simp
def addPre (p : List UInt8) : List (List UInt8) → List (List UInt8)
  | [] => [p]
  | h :: t => (p ++ h) :: t
theorem parts_hit (c : UInt8) (r : List UInt8) : parts c (c :: r) = [] :: parts c r := by rw [parts, if_pos rfl]
theorem parts_ne_cons (c x : UInt8) (r : List UInt8) (h : x ≠ c) : parts c (x :: r) = (match parts c r with | [] => [[x]] | h :: t => (x :: h) :: t) := by
  conv => lhs; unfold parts
  rw [if_neg h]
theorem parts_cons_ne (c x : UInt8) (r : List UInt8) (h : x ≠ c) (p : List UInt8) : addPre p (parts c (x :: r)) = addPre (p ++ [x]) (parts c r) := by
  have hn := parts_ne c r
  rw [parts_ne_cons c x r h]
  cases e : parts c r with
  | nil => exact absurd e hn
  | cons a t => simp [addPre]
theorem parts_len (c : UInt8) (l : List UInt8) : (parts c l).length ≤ l.length + 1 := by
  induction l with
  | nil => simp [parts]
  | cons x r ih =>
    unfold parts
    split
    · simp only [List.length_cons]; omega
    · cases e : parts c r with
      | nil => simp
      | cons a t => rw [e] at ih; simp only [List.length_cons] at ih ⊢; omega
theorem splitK_hit (c : UInt8) (k i : Nat) (l : List UInt8) (h : Lib.index l [c] = (i : Int)) : Lib.splitK [c] 0 (k + 1) l = l.take i :: Lib.splitK [c] 0 k (l.drop (i + 1)) := by
  conv => lhs; unfold Lib.splitK
  rw [if_neg (fun e => by have := beq_iff_eq.1 e; omega)]
  have e : (Lib.index l [c]).toNat = i := by omega
  rw [e]
  rfl
theorem splitK_parts (c : UInt8) (l : List UInt8) : Lib.splitK [c] 0 (Lib.count l [c]) l = parts c l := by
  have hne : ([c] : List UInt8) ≠ [] := by simp
  induction l with
  | nil =>
    have e : Lib.index [] [c] = -1 := by rw [Lib.index_one]; rfl
    rw [Lib.count_miss e]
    rfl
  | cons b r ih =>
    have hix : Lib.index (b :: r) [c] = if b == c then 0 else if Lib.indexByte r c == -1 then -1 else Lib.indexByte r c + 1 := by rw [Lib.index_one]; rfl
    have hir : Lib.index r [c] = Lib.indexByte r c := Lib.index_one r c
    by_cases hb : b = c
    · have e : Lib.index (b :: r) [c] = ((0 : Nat) : Int) := by rw [hix, if_pos (beq_iff_eq.2 hb)]; rfl
      rw [Lib.count_hit hne e, Nat.add_comm 1, splitK_hit c _ 0 _ e]
      simp only [List.length_cons, List.length_nil, Nat.zero_add, List.drop_succ_cons, List.drop_zero, List.take_zero]
      rw [ih, hb, parts_hit]
    · have hb' : (b == c) = false := beq_eq_false_iff_ne.2 hb
      rw [parts_ne_cons c b r hb, ← ih]
      by_cases hm : Lib.indexByte r c = -1
      · have e : Lib.index (b :: r) [c] = -1 := by rw [hix, hb', if_neg (by decide), if_pos (beq_iff_eq.2 hm)]
        rw [Lib.count_miss e, Lib.count_miss (hir.trans hm)]
        rfl
      · have hge := Lib.indexByte_ge r c
        obtain ⟨i, hi⟩ := Int.eq_ofNat_of_zero_le (show 0 ≤ Lib.indexByte r c by omega)
        have e : Lib.index (b :: r) [c] = ((i + 1 : Nat) : Int) := by rw [hix, hb', if_neg (by decide), if_neg (fun z => hm (beq_iff_eq.1 z)), hi]; rfl
        have e' : Lib.index r [c] = (i : Int) := hir.trans hi
        rw [Lib.count_hit hne e, Lib.count_hit hne e', Nat.add_comm 1, Nat.add_comm 1, splitK_hit c _ (i + 1) _ e, splitK_hit c _ i _ e']
        simp only [List.length_cons, List.length_nil, Nat.zero_add, List.drop_succ_cons, List.take_succ_cons]
def mkB (l : List UInt8) : ByteArray := ⟨l.toArray⟩
theorem mkB_data (l : List UInt8) : (mkB l).data.toList = l := by simp [mkB]
theorem mkB_self (s : ByteArray) : mkB s.data.toList = s := by
  apply ByteArray.ext
  simp [mkB]
theorem map_mkB (l : List ByteArray) : (l.map (·.data.toList)).map mkB = l := by
  rw [List.map_map]
  conv => rhs; rw [← List.map_id l]
  exact List.map_congr_left (fun x _ => mkB_self x)
theorem extract_mkB (s : ByteArray) (a b : Nat) : s.extract a b = mkB ((s.data.toList.drop a).take (b - a)) := by rw [← Lib.extract_data, mkB_self]
theorem size_len (s : ByteArray) : s.size = s.data.toList.length := Lib.size_eq s
theorem bt_is (s : ByteArray) (i : Nat) (h : i < s.data.toList.length) (c : UInt8) : bt s (i : Int) = ((c.toNat : Nat) : Int) ↔ s.data.toList[i] = c := by
  have hs : ((i : Int)).toNat < s.size := by rw [size_len, Int.toNat_natCast]; exact h
  rw [← bt_at s (i : Int) hs]
  have e : (s[(i : Int).toNat]'hs) = s.data.toList[i] := by
    simp only [Int.toNat_natCast]
    rfl
  rw [e]
  constructor
  · intro g
    exact UInt8.toNat_inj.1 (by exact_mod_cast g)
  · intro g
    rw [g]
theorem spec_parts_at (s : ByteArray) (c : UInt8) (hs : s.size ≤ 1048576) (d : Nat) : ∀ (i fr : Nat) (out : List ByteArray), i + d = s.data.toList.length → fr ≤ i → out.length ≤ i →
    Ev (fun k => spec_Parts.l0 k s ((c.toNat : Nat) : Int) out (fr : Int) (i : Int)) (out ++ (addPre ((s.data.toList.drop fr).take (i - fr)) (parts c (s.data.toList.drop i))).map mkB) := by
  have hz := size_len s
  induction d with
  | zero =>
    intro i fr out hi hf ho
    refine Ev.step (fun _ => rfl) ?_
    simp only [spec_Parts.l0]
    refine ev_pos (by omega) (ev_pos (by omega) (ev_pos (by omega) (ev_pos (by omega) (ev_pos (by omega) ?_))))
    rw [wsucc (by omega), Int.toNat_natCast, Int.toNat_natCast, extract_mkB]
    refine Ev.step (fun _ => rfl) ?_
    simp only [spec_Parts.l0]
    refine ev_neg (by omega) (ev_some ?_)
    rw [List.drop_of_length_le (show s.data.toList.length ≤ i by omega)]
    simp [parts, addPre]
  | succ d ih =>
    intro i fr out hi hf ho
    have hil : i < s.data.toList.length := by omega
    refine Ev.step (fun _ => rfl) ?_
    simp only [spec_Parts.l0]
    refine ev_pos (by omega) (ev_neg (by omega) (ev_pos (by omega) (ev_pos (by omega) ?_)))
    have hdrop := List.drop_eq_getElem_cons hil
    by_cases e : s.data.toList[i] = c
    · refine ev_pos ((bt_is s i hil c).2 e) (ev_pos (by omega) (ev_pos (by omega) (ev_pos (by omega) ?_)))
      rw [wsucc (by omega), Int.toNat_natCast, Int.toNat_natCast, extract_mkB]
      have h2 := ih (i + 1) (i + 1) (out ++ [mkB ((s.data.toList.drop fr).take (i - fr))]) (by omega) (Nat.le_refl _) (by simp; omega)
      rw [hdrop]
      have e1 : parts c (s.data.toList[i] :: s.data.toList.drop (i + 1)) = [] :: parts c (s.data.toList.drop (i + 1)) := by
        rw [e, parts_hit]
      rw [e1]
      have e2 : addPre ((s.data.toList.drop (i + 1)).take (i + 1 - (i + 1))) (parts c (s.data.toList.drop (i + 1))) = parts c (s.data.toList.drop (i + 1)) := by
        rw [Nat.sub_self, List.take_zero]
        cases e3 : parts c (s.data.toList.drop (i + 1)) with
        | nil => exact absurd e3 (parts_ne _ _)
        | cons a t => simp [addPre]
      rw [e2] at h2
      simp only [addPre, List.append_nil, List.map_cons]
      rw [List.append_assoc] at h2
      exact h2
    · refine ev_neg (fun g => e ((bt_is s i hil c).1 g)) ?_
      rw [wsucc (by omega)]
      have h2 := ih (i + 1) fr out (by omega) (by omega) (by omega)
      have e2 : (s.data.toList.drop fr).take (i + 1 - fr) = (s.data.toList.drop fr).take (i - fr) ++ [s.data.toList[i]] := by
        rw [show i + 1 - fr = (i - fr) + 1 by omega, List.take_succ_eq_append_getElem (by rw [List.length_drop]; omega)]
        congr 2
        rw [List.getElem_drop]
        congr 1
        omega
      rw [hdrop, parts_cons_ne c _ _ e, ← e2]
      exact h2
theorem spec_parts_ev (s : ByteArray) (c : UInt8) (hs : s.size ≤ 1048576) : Ev (fun k => spec_Parts.f k s ((c.toNat : Nat) : Int)) ((parts c s.data.toList).map mkB) := by
  unfold spec_Parts.f
  have h := spec_parts_at s c hs s.data.toList.length 0 0 [] (by omega) (Nat.le_refl _) (by simp)
  rw [List.drop_zero, Nat.sub_self, List.take_zero, List.nil_append] at h
  cases e : parts c s.data.toList with
  | nil => exact absurd e (parts_ne _ _)
  | cons a t =>
    rw [e] at h
    exact h
/-! ### the program's own way: a cut at each instance -/
theorem sep_is (c : UInt8) : strOfNums [((c.toNat : Nat) : Int)] = mkB [c] := by
  apply ByteArray.ext
  simp [strOfNums, mkB]
theorem impl_parts_is (s : ByteArray) (c : UInt8) (hs : s.size ≤ 1048576) : impl_Parts.f s ((c.toNat : Nat) : Int) = some ((parts c s.data.toList).map mkB) := by
  unfold impl_Parts.f strings_Split.f
  rw [sep_is, if_pos ⟨by omega, by simp [mkB, ByteArray.size]⟩, Option.bind_some]
  congr 1
  rw [← map_mkB (Lib.splitB (mkB [c]) 0 (Lib.countB s (mkB [c])) s), Lib.splitB_data, mkB_data]
  have : Lib.countB s (mkB [c]) = Lib.count s.data.toList [c] := by
    show Lib.count _ _ = _
    rw [mkB_data]
  rw [this, splitK_parts]
/-! ### what the law writes into texts -/
theorem eqStringS_at (x0 : List ByteArray) (hn : x0.length ≤ 2097152) (d : Nat) : ∀ (i : Nat), i + d = x0.length → Ev (fun k => laws_eqStringS.l0 k x0 x0 (i : Int)) true := by
  induction d with
  | zero =>
    intro i hi
    refine Ev.step (fun _ => rfl) ?_
    simp only [laws_eqStringS.l0]
    exact ev_neg (by omega) (ev_some rfl)
  | succ d ih =>
    intro i hi
    refine Ev.step (fun _ => rfl) ?_
    simp only [laws_eqStringS.l0]
    refine ev_pos (by omega) (ev_pos (by omega) (ev_pos (by omega) (ev_pos (by trivial) ?_)))
    rw [wsucc (by omega)]
    exact ih (i + 1) (by omega)
theorem eqStringS_ev (x0 : List ByteArray) (hn : x0.length ≤ 2097152) : Ev (fun k => laws_eqStringS.f k x0 x0) true := by
  unfold laws_eqStringS.f
  exact ev_pos (by trivial) (eqStringS_at x0 hn x0.length 0 (by omega))
theorem markText_at : ∀ (m x : Nat) (t : ByteArray), x ≤ m → t.size + x ≤ 9000000000 → ∃ r, Ev (fun k => laws_markText.l0 k (x : Int) t) r := by
  intro m
  induction m with
  | zero =>
    intro x t hx ht
    refine ⟨(⟨#[109]⟩ : ByteArray) ++ t, Ev.step (fun _ => rfl) ?_⟩
    simp only [laws_markText.l0]
    exact ev_neg (by omega) (ev_pos (by omega) (ev_some rfl))
  | succ m ih =>
    intro x t hx ht
    by_cases h0 : x = 0
    · refine ⟨(⟨#[109]⟩ : ByteArray) ++ t, Ev.step (fun _ => rfl) ?_⟩
      simp only [laws_markText.l0]
      exact ev_neg (by omega) (ev_pos (by omega) (ev_some rfl))
    · have hsz : ∀ z : Int, (strOfNums [z]).size = 1 := fun z => by simp [strOfNums, ByteArray.size]
      obtain ⟨r, hr⟩ := ih (x / 10) (strOfNums [(wrap64 (48 + (Int.tmod (x : Int) 10))) % 256] ++ t) (by omega) (by rw [ByteArray.size_append, hsz]; omega)
      refine ⟨r, Ev.step (fun _ => rfl) ?_⟩
      simp only [laws_markText.l0]
      refine ev_pos (by omega) (ev_bind0 rfl (ev_pos (by rw [hsz]; omega) ?_))
      have e : wrap64 (Int.tdiv (x : Int) 10) = ((x / 10 : Nat) : Int) := by
        rw [Int.tdiv_eq_ediv_of_nonneg (by omega), w64 (by omega) (by omega)]
        omega
      rw [e]
      exact hr
theorem markText_ev (j : Nat) (h0 : 1 ≤ j) (h1 : j ≤ 4294967295) : ∃ r, Ev (fun k => laws_markText.f k (j : Int)) r := by
  obtain ⟨r, hr⟩ := markText_at j j (⟨#[]⟩ : ByteArray) (Nat.le_refl _) (by simp [ByteArray.size]; omega)
  refine ⟨r, ?_⟩
  unfold laws_markText.f
  exact ev_neg (by omega) hr
theorem marks_all : ∃ mt : Nat → ByteArray, ∀ j : Nat, 1 ≤ j → j ≤ 4294967295 → Ev (fun k => laws_markText.f k (j : Int)) (mt j) := by
  have h : ∀ j : Nat, ∃ t : ByteArray, 1 ≤ j → j ≤ 4294967295 → Ev (fun k => laws_markText.f k (j : Int)) t := fun j => by
    by_cases hj : 1 ≤ j ∧ j ≤ 4294967295
    · obtain ⟨r, hr⟩ := markText_ev j hj.1 hj.2
      exact ⟨r, fun _ _ => hr⟩
    · exact ⟨ByteArray.empty, fun a b => absurd ⟨a, b⟩ hj⟩
  exact ⟨fun j => Classical.choose (h j), fun j => Classical.choose_spec (h j)⟩
def mtx (mt : Nat → ByteArray) (n : Nat) : List ByteArray := (List.range n).map fun j => mt (1 + j)
theorem mtx_length (mt : Nat → ByteArray) (n : Nat) : (mtx mt n).length = n := by simp [mtx]
theorem mtx_get (mt : Nat → ByteArray) (n i : Nat) (h : i < (mtx mt n).length) : (mtx mt n)[i] = mt (1 + i) := by simp [mtx]
theorem rdO_get {xs : List ByteArray} {n : Nat} (h : n < xs.length) : rdOf ByteArray.empty xs (n : Int) = xs[n] := by
  unfold rdOf
  rw [Int.toNat_natCast, List.getD_eq_getElem?_getD, List.getElem?_eq_getElem h]
  rfl
theorem markStringS_at (mt : Nat → ByteArray) (hmt : ∀ j : Nat, 1 ≤ j → j ≤ 4294967295 → Ev (fun k => laws_markText.f k (j : Int)) (mt j)) (n : Nat) (hn : n ≤ 2097152) (d : Nat) : ∀ (i : Nat) (x3 : List ByteArray), i + d = n → x3.length = n → x3.take i = (mtx mt n).take i →
    Ev (fun k => laws_markStringS.l0 k x3 ((1 + i : Nat) : Int) (i : Int)) (((1 + n : Nat) : Int), mtx mt n) := by
  induction d with
  | zero =>
    intro i x3 hi hl ht
    refine Ev.step (fun _ => rfl) ?_
    simp only [laws_markStringS.l0]
    refine ev_neg (by omega) (ev_some ?_)
    rw [take_all (ys := mtx mt n) (by rw [hl, mtx_length]) (by rw [mtx_length]; omega) ht, show i = n by omega]
  | succ d ih =>
    intro i x3 hi hl ht
    refine Ev.step (fun _ => rfl) ?_
    simp only [laws_markStringS.l0]
    refine ev_pos (by omega) (Ev.bind (hmt (1 + i) (by omega) (by omega)) (ev_pos (by omega) ?_))
    rw [wsucc (show i ≤ 281474976702464 by omega), wsucc (show 1 + i ≤ 281474976702464 by omega), Int.toNat_natCast]
    have hm : mt (1 + i) = (mtx mt n)[i]'(by rw [mtx_length]; omega) := by rw [mtx_get]
    rw [hm, show 1 + i + 1 = 1 + (i + 1) by omega]
    exact ih (i + 1) _ (by omega) (by simp [hl]) (take_set (ys := mtx mt n) (by rw [hl, mtx_length]) (by rw [mtx_length]; omega) ht)
theorem heldStringS_at (mt : Nat → ByteArray) (hmt : ∀ j : Nat, 1 ≤ j → j ≤ 4294967295 → Ev (fun k => laws_markText.f k (j : Int)) (mt j)) (n : Nat) (hn : n ≤ 2097152) (d : Nat) : ∀ (i : Nat), i + d = n →
    Ev (fun k => laws_heldStringS.l0 k (mtx mt n) ((1 + i : Nat) : Int) (i : Int)) ((1 + n : Nat) : Int) := by
  induction d with
  | zero =>
    intro i hi
    refine Ev.step (fun _ => rfl) ?_
    simp only [laws_heldStringS.l0, mtx_length]
    refine ev_neg (by omega) (ev_some ?_)
    rw [show i = n by omega]
  | succ d ih =>
    intro i hi
    refine Ev.step (fun _ => rfl) ?_
    simp only [laws_heldStringS.l0, mtx_length]
    refine ev_pos (by omega) (ev_pos (by omega) (Ev.bind (hmt (1 + i) (by omega) (by omega)) ?_))
    rw [rdO_get (show i < (mtx mt n).length by rw [mtx_length]; omega), mtx_get, wsucc (show i ≤ 281474976702464 by omega), wsucc (show 1 + i ≤ 281474976702464 by omega), show 1 + i + 1 = 1 + (i + 1) by omega]
    exact ev_pos rfl (ih (i + 1) (by omega))
theorem FnExactParts : laws_FnExactParts.Pure := by
  intro s b _ hb
  refine (?_ : Ev (fun k => laws_FnExactParts.f k s b) true).rounds
  unfold laws_FnExactParts.f
  by_cases hbig : (s.size : Int) > 1048576
  · exact ev_pos hbig (ev_some rfl)
  refine ev_neg hbig ?_
  obtain ⟨c, rfl⟩ : ∃ c : UInt8, b = ((c.toNat : Nat) : Int) := ⟨UInt8.ofNat b.toNat, by
    have : b.toNat < 256 := by omega
    simp only [UInt8.toNat_ofNat']
    omega⟩
  have S := spec_parts_ev s c (by omega)
  have I := impl_parts_is s c (by omega)
  have hlen : ((parts c s.data.toList).map mkB).length ≤ 2097152 := by
    have := parts_len c s.data.toList
    have := size_len s
    rw [List.length_map]
    omega
  generalize (parts c s.data.toList).map mkB = v at S I hlen
  have E := eqStringS_ev v hlen
  obtain ⟨mt, hmt⟩ := marks_all
  have M : Ev (fun k => laws_markStringS.f k v 1) (((1 + v.length : Nat) : Int), mtx mt v.length) := markStringS_at mt hmt v.length hlen v.length 0 v (by omega) rfl (by simp)
  have H : Ev (fun k => laws_heldStringS.f k (mtx mt v.length) 1) ((1 + v.length : Nat) : Int) := heldStringS_at mt hmt v.length hlen v.length 0 (by omega)
  refine Ev.bind S (ev_bind0 I (Ev.bind E (ev_pos (by trivial) (Ev.bind M (Ev.bind H (ev_neg (by omega) (ev_pos rfl (ev_bind0 I (Ev.bind E (ev_pos (by trivial) ?_))))))))))
  exact Ev.bind H (ev_neg (by omega) (ev_pos rfl (ev_some rfl)))

end Go.Proofs.YtgenohcnngomeaaDoor.Pure
