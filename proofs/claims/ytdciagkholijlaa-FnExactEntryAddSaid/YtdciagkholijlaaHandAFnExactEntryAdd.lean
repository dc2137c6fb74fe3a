/- What the hand walk of this law stands on: boxes, entries and sketches by the blocks that they lie in; the calls of what the law reaches. -/
import Derived.Test.YtdciagkholijlaaPFnExactEntryAddx1
import Derived.Test.YtdciagkholijlaaPFnExactEntryAddx10
import Derived.Test.YtdciagkholijlaaPFnExactEntryAddx12
import Derived.Test.YtdciagkholijlaaPFnExactEntryAddx13
import Derived.Test.YtdciagkholijlaaPFnExactEntryAddx14
import Derived.Test.YtdciagkholijlaaPFnExactEntryAddx2
import Derived.Test.YtdciagkholijlaaPFnExactEntryAddx5
import Derived.Test.YtdciagkholijlaaPFnExactEntryAddx7
import Derived.Test.YtdciagkholijlaaPFnExactEntryAddx8
import Derived.Test.YtdciagkholijlaaAid
import Derived.WalkKit
import Derived.Deep.RegionHeld3
import Derived.Deep.DeepCutAuto
namespace Go.Proofs.Ytdciagkholijlaa.PFnExactEntryAdd
open Go.RowKit Go.Proofs.Ytdciagkholijlaa.PFnExactEntryAdd Go.Proofs.YtdciagkholijlaaW.PrintWords Go.Proofs.YtdciagkholijlaaW.PrintLast Go.Proofs.YtdciagkholijlaaW.PrintMore Go.Proofs.Ytdciagkholijlaa.Aid
set_option linter.unusedVariables false
set_option linter.unusedSimpArgs false

def marksI (k : Int) (n : Nat) : List Int := (List.range n).map fun j : Nat => k + (j : Int)
theorem marksI_length (k : Int) (n : Nat) : (marksI k n).length = n := by simp [marksI]
theorem marksI_get (k : Int) (n i : Nat) (h : i < (marksI k n).length) : (marksI k n)[i] = k + (i : Int) := by simp [marksI]
def marksII : Int → List (List Int) → List (List Int)
  | _, [] => []
  | k, l :: ls => marksI k l.length :: marksII (k + (l.length : Int)) ls
def lensII : List (List Int) → Nat
  | [] => 0
  | l :: ls => l.length + lensII ls
theorem marksII_length (ls : List (List Int)) : ∀ k, (marksII k ls).length = ls.length := by
  induction ls with
  | nil => intro k; rfl
  | cons l ls ih => intro k; simp [marksII, ih]
theorem lensII_take (ls : List (List Int)) : ∀ i, (h : i < ls.length) → lensII (ls.take (i + 1)) = lensII (ls.take i) + ls[i].length := by
  induction ls with
  | nil => intro i h; simp at h
  | cons l ls ih =>
    intro i h
    cases i with
    | zero => simp [lensII]
    | succ i =>
      have := ih i (by simpa using h);simp only [List.take_succ_cons, lensII, List.getElem_cons_succ]
      omega
theorem lensII_le (ls : List (List Int)) : ∀ i, lensII (ls.take i) ≤ lensII ls := by
  induction ls with
  | nil => intro i; simp [lensII]
  | cons l ls ih =>
    intro i
    cases i with
    | zero => simp [lensII]
    | succ i => have := ih i; simp only [List.take_succ_cons, lensII]; omega
theorem marksII_get (ls : List (List Int)) : ∀ (k : Int) (i : Nat) (h : i < ls.length), (marksII k ls)[i]'(by rw [marksII_length]; exact h) = marksI (k + (lensII (ls.take i) : Nat)) ls[i].length := by
  induction ls with
  | nil => intro k i h; simp at h
  | cons l ls ih =>
    intro k i h
    cases i with
    | zero => simp [marksII, lensII]
    | succ i =>
      have := ih (k + (l.length : Int)) i (by simpa using h);simp only [marksII, List.getElem_cons_succ, this, List.take_succ_cons, lensII]
      congr 1
      omega
theorem marksII_set (ls : List (List Int)) (k : Int) (i : Nat) (h : i < ls.length) : ((marksII k ls).take i ++ ls.drop i).set i (marksI (k + (lensII (ls.take i) : Nat)) ls[i].length) = (marksII k ls).take (i + 1) ++ ls.drop (i + 1) := by
  have hl : ((marksII k ls).take i).length = i := by rw [List.length_take, marksII_length]; omega
  rw [List.set_append_right _ _ (by omega), hl, Nat.sub_self, List.drop_eq_getElem_cons h, List.set_cons_zero, List.take_succ_eq_append_getElem (by rw [marksII_length]; exact h), marksII_get ls k i h, List.append_assoc]
  rfl
theorem markI_call (k : Nat) {w : World} {a b : Nat} {v : Value} {l : List Int} {ok : Nat → Prop} (k0 : Int) (u : Kd.R (Kd.int .i64) 3 w a ok v l) (hok : ∀ k, ok k → k < b) (ha : a ≤ w.heap.size) (he : laws_markIntS.f k l k0 = some (k0 + (l.length : Int), marksI k0 l.length)) :
    Calls Try.prog 82 #[v, .int .i64 k0] w fun e w' => e = .returned (.int .i64 (k0 + (l.length : Int))) ∧ Kd.R (Kd.int .i64) 3 w' a ok v (marksI k0 l.length) ∧ Kp w w' a b ∧ Kept w w' (fun k => some k = v.ownBlock) := by
  obtain ⟨w0, hw0, hB⟩ : ∃ w0 : World, w0.heap.size = a ∧ Below a w0 w := by
    refine ⟨{ w with heap := w.heap.extract 0 a }, by simp; omega, ⟨rfl, rfl, rfl, by simp; omega, fun i hi => ?_⟩⟩
    simp [Array.getElem?_extract]
    omega
  subst hw0
  have u1 : Kd.R (Kd.int .i64) 3 w w0.heap.size (fun k => some k = v.ownBlock) v l := Kd.R_tight rfl u
  refine (laws_markIntS.calls k (fun k => some k = v.ownBlock) v l k0 _ _ w0 w hB u1 he).mono ?_
  rintro e w' ⟨rfl, hr, hb, hk⟩
  refine ⟨rfl, Kd.R_reok rfl hr (fun k hk => u.1 k hk), ⟨hb.os.trans hB.os.symm, hb.tape.trans hB.tape.symm, hb.output.trans hB.output.symm, hk.mono (fun i hi => ⟨Kd.R_base u i hi.symm, hok i (u.1 i hi.symm)⟩)⟩, hk⟩
set_option maxHeartbeats 4000000 in
theorem markII_call (k : Nat) (hm : Aside0 (∀ (l : List Int) (k0 : Int), l.length ≤ 1048576 → 0 ≤ k0 → k0 ≤ 1073741824 → laws_markIntS.f k l k0 = some (k0 + (l.length : Int), marksI k0 l.length))) {w : World} {a b : Nat} {z : Sl} {R : List (List Int)} {ok : Nat → Prop} (k0 : Int) (u : Kd.S (Kd.slice 3 (Kd.int .i64)) 24 w a ok (.slice z.A z.n z.c) R) (hok : ∀ k, ok k → k < b) (ha : a ≤ w.heap.size)
    (hk0 : 0 ≤ k0) (hkb : k0 + (lensII R : Nat) ≤ 1073741824) (hR : R.length ≤ 1048576) (hl : ∀ l ∈ R, l.length ≤ 1048576) :
    Calls Try.prog 83 #[.slice z.A z.n z.c, .int .i64 k0] w fun e w' => e = .returned (.int .i64 (k0 + (lensII R : Nat))) ∧ Kd.S (Kd.slice 3 (Kd.int .i64)) 24 w' a ok (.slice z.A z.n z.c) (marksII k0 R) ∧ Kp w w' a b ∧ Kept w w' ok := by
  have hzn : z.n = R.length := (Kd.S_reads' u).1
  have HZ := Aside0.mk hzn
  have HL := Aside0.mk hl
  have HOK := Aside0.mk hok
  have U := Aside0.mk u
  have HR := Aside0.mk hR
  have HB := Aside0.mk hkb
  have HA := Aside0.mk ha
  have hzm : z.n ≤ 1048576 := by omega
  clear hzn hl hok u hR hkb ha
  go_enter Try.func83, Try.ntmps83
  go_wp2
  go_loopg [1, 5] z.n (fun gg s1 s5 wr => ∃ i : Nat, i ≤ z.n ∧ z.n - i ≤ gg ∧ s5 = .int .i64 i ∧ s1 = .int .i64 (k0 + (lensII (R.take i) : Nat)) ∧ Aside0 (Kd.S (Kd.slice 3 (Kd.int .i64)) 24 wr a ok (.slice z.A z.n z.c) ((marksII k0 R).take i ++ R.drop i)) ∧ Aside0 (Kp w wr a b) ∧ Aside0 (Kept w wr ok))
  case atStart => exact ⟨0, Nat.zero_le _, by omega, rfl, by simp [lensII], ⟨by simpa using U.out⟩, ⟨Kp.refl _ _ _⟩, ⟨Kept.refl _ _⟩⟩
  case round =>
    obtain ⟨i, hi, hg, rfl, rfl, S, KP, KT⟩ := hrel;have lk := lensII_le R i
    have lk' : k0 + (lensII (R.take i) : Nat) ≤ 1073741824 := by have := HB.out; omega
    by_cases hlt : i < z.n
    · have hltz : (i : Int) < (z.n : Int) := by omega
      have hiR : i < R.length := by have := HZ.out; omega
      have hcl : ((marksII k0 R).take i ++ R.drop i).length = R.length := by rw [List.length_append, List.length_take, List.length_drop, marksII_length]; omega
      obtain ⟨g, cap, hv, hbg, hgs, _⟩ := Kd.S_form S.out (by rw [hcl]; omega);injection hv with hA hn hc;have S2 := S.out;rw [hA] at S2;obtain ⟨oki, c, hcl2, hM, hcell, hoki, hH⟩ := Kd.S_lend S2 ([] : List Int) (i : Int) (by omega) (by omega);obtain ⟨v, rfl, hRv⟩ := hM
      have hget : ((marksII k0 R).take i ++ R.drop i).getD (i : Int).toNat [] = R[i] := by
        rw [Int.toNat_natCast, List.getD_eq_getElem?_getD, List.getElem?_append_right (by rw [List.length_take, marksII_length]; omega), List.length_take, marksII_length, Nat.min_eq_left (by omega), Nat.sub_self, List.drop_eq_getElem_cons hiR]
        rfl
      rw [hget] at hRv;have hc0 := hcell 0 v rfl;simp only [Int.toNat_natCast, Kd.slice, Nat.mul_one, Nat.add_zero] at hc0;obtain ⟨A1, c1, rfl⟩ := Kd.R_slice hRv;have hl1 : R[i].length ≤ 1048576 := HL.out _ (List.getElem_mem hiR);have hcall := markI_call (b := b) k (k0 + (lensII (R.take i) : Nat)) hRv (fun q hq => HOK.out q (hoki q hq).1) (Nat.le_trans HA.out KT.out.1) (hm.out _ _ hl1 (by omega) lk');have hts := lensII_take R i hiR;have hset := marksII_set R k0 i hiR;have HH := Aside0.mk hH;have HRV := Aside0.mk hRv;have HOI := Aside0.mk hoki;have HTS := Aside0.mk hts;have HSET := Aside0.mk hset;have HAA := Aside0.mk hA;clear hcell hcl2 hget hH hRv hoki hts hset S S2 hn hc hA hcl;have hAz : z.A = some ⟨g, 0, none⟩ := HAA.out;generalize hzA : z.A = zA at *;subst hAz
      go_wp2_with (go_at_call 82; refine hcall.mono ?_; rintro e w' ⟨rfl, hr2, hkp, hkt⟩; have HR2 := Aside0.mk hr2; have HKP := Aside0.mk hkp; have HKT := Aside0.mk hkt; clear hr2 hkp hkt)
      go_roundg (z.n - (i + 1))
      case measure => omega
      case rel =>
        refine ⟨i + 1, by omega, by omega, by go_num, by rw [HTS.out]; congr 1; omega, ⟨?_⟩, ⟨KP.out.trans HKP.out⟩, ⟨?_⟩⟩
        · have h1 := Kd.H_kept HH.out HKT.out (fun q hq hn hs => hn (HRV.out.1 q hs.symm))
          have h2 := Kd.H_back h1 (x' := marksI (k0 + (lensII (R.take i) : Nat)) R[i].length) (okp := oki) ⟨_, rfl, HR2.out⟩ (fun _ hq => hq);rw [Int.toNat_natCast, HSET.out] at h2;exact h2
        · exact KT.out.then_ HKT.out (fun q hq => .inl (HOI.out q (HRV.out.1 q hq.symm)).1)
    · have hltz : ¬ (i : Int) < (z.n : Int) := by omega
      have hiz : i = R.length := by have := HZ.out; omega
      have S2 := S.out;rw [hiz, List.drop_length, List.append_nil, List.take_of_length_le (by rw [marksII_length]; exact Nat.le_refl _)] at S2
      have ht : R.take i = R := by rw [hiz, List.take_length]
      rw [ht];have SS := Aside0.mk S2;clear S2 ht hiz
      go_wp2
      go_ret
      exact ⟨rfl, SS.out, KP.out, KT.out⟩
theorem row_kept {w w' : World} {a e : Nat} {ok S : Nat → Prop} {v : Value} {l : List Int} (u : Kd.R (Kd.int .i64) e w a ok v l) (hk : Kept w w' S) (hne : ∀ k, v.ownBlock = some k → ¬ S k) : Kd.R (Kd.int .i64) e w' a ok v l :=
  Kd.R_reok rfl (Kd.R_kept (Kd.R_tight rfl u) hk (fun k hk' => hne k hk'.symm)) (fun k hk' => u.1 k hk')
def MkI (k : Nat) : Prop := ∀ (l : List Int) (k0 : Int), l.length ≤ 1048576 → 0 ≤ k0 → k0 ≤ 1073741824 → laws_markIntS.f k l k0 = some (k0 + (l.length : Int), marksI k0 l.length)
theorem rdR_get {xs : List (List Int)} {n : Nat} (h : n < xs.length) : rd_L2 xs (n : Int) = xs[n] := by
  unfold rd_L2
  rw [Int.toNat_natCast, List.getD_eq_getElem?_getD, List.getElem?_eq_getElem h]
  rfl
theorem rdI_get {xs : List S70} {n : Nat} (h : n < xs.length) : rd_T70 xs (n : Int) = xs[n] := by
  unfold rd_T70
  rw [Int.toNat_natCast, List.getD_eq_getElem?_getD, List.getElem?_eq_getElem h]
  rfl
theorem markI_at (a : Int) (n : Nat) (ha : 0 ≤ a) (hb : a ≤ 1073741824) (hn : n ≤ 1048576) (d : Nat) : ∀ (k i : Nat) (x3 : List Int), d < k → i + d = n → x3.length = n → x3.take i = (marksI a n).take i →
    laws_markIntS.l0 k x3 (a + (i : Int)) (i : Int) = some (a + (n : Int), marksI a n) := by
  induction d with
  | zero =>
    intro k i x3 hk hi hl ht;obtain ⟨k, rfl⟩ : ∃ m, k = m + 1 := ⟨k - 1, by omega⟩;simp only [laws_markIntS.l0];rw [if_neg (by omega), take_all (ys := marksI a n) (by rw [hl, marksI_length]) (by rw [marksI_length]; omega) ht, show i = n by omega]
  | succ d ih =>
    intro k i x3 hk hi hl ht;obtain ⟨k, rfl⟩ : ∃ m, k = m + 1 := ⟨k - 1, by omega⟩;simp only [laws_markIntS.l0];rw [if_pos (by omega), if_pos (by omega), w64 (x := (i : Int) + 1) (by omega) (by omega), w64 (x := a + (i : Int) + 1) (by omega) (by omega), Int.toNat_natCast]
    have e := ih k (i + 1) (x3.set i (a + (i : Int))) (by omega) (by omega) (by simp [hl]) (by
      have hm : a + (i : Int) = (marksI a n)[i]'(by rw [marksI_length]; omega) := by rw [marksI_get]
      rw [hm]
      exact take_set (ys := marksI a n) (by rw [hl, marksI_length]) (by rw [marksI_length]; omega) ht)
    rw [show (i : Int) + 1 = ((i + 1 : Nat) : Int) by omega, show a + (i : Int) + 1 = a + ((i + 1 : Nat) : Int) by omega];exact e
theorem mkI (k : Nat) (hk : 1048577 ≤ k) : MkI k := by
  intro l k0 hl h0 h1
  have := markI_at k0 l.length h0 h1 hl l.length k 0 l (by omega) (by omega) rfl (by simp)
  simpa [laws_markIntS.f] using this
theorem heldI_at (a : Int) (n : Nat) (ha : 0 ≤ a) (hb : a ≤ 1073741824) (hn : n ≤ 1048576) (d : Nat) : ∀ i : Nat, i + d = n →
    Ev (fun k => laws_heldIntS.l0 k (marksI a n) (a + (i : Int)) (i : Int)) (a + (n : Int)) := by
  induction d with
  | zero =>
    intro i hi;refine Ev.step (fun _ => rfl) ?_;simp only [laws_heldIntS.l0];exact ev_neg (by rw [marksI_length]; omega) (ev_some (by rw [show i = n by omega]))
  | succ d ih =>
    intro i hi;refine Ev.step (fun _ => rfl) ?_;simp only [laws_heldIntS.l0];have hl := marksI_length a n;refine ev_pos (by omega) (ev_pos (by omega) (ev_pos (by rw [rd_get (show i < (marksI a n).length by omega), marksI_get]) ?_));rw [w64 (x := (i : Int) + 1) (by omega) (by omega), w64 (x := a + (i : Int) + 1) (by omega) (by omega), show (i : Int) + 1 = ((i + 1 : Nat) : Int) by omega, show a + (i : Int) + 1 = a + ((i + 1 : Nat) : Int) by omega];exact ih (i + 1) (by omega)
theorem heldI_ev (a : Int) (n : Nat) (ha : 0 ≤ a) (hb : a ≤ 1073741824) (hn : n ≤ 1048576) : Ev (fun k => laws_heldIntS.f k (marksI a n) a) (a + (n : Int)) := by
  have := heldI_at a n ha hb hn n 0 (by omega)
  simpa [laws_heldIntS.f] using this
theorem heldII_at (a : Int) (R : List (List Int)) (ha : 0 ≤ a) (hb : a + (lensII R : Nat) ≤ 1073741824) (hR : R.length ≤ 1048576) (hl : ∀ l ∈ R, l.length ≤ 1048576) (d : Nat) : ∀ i : Nat, i + d = R.length →
    Ev (fun k => laws_heldIntSS.l0 k (marksII a R) (a + (lensII (R.take i) : Nat)) (i : Int)) (a + (lensII R : Nat)) := by
  induction d with
  | zero =>
    intro i hi;refine Ev.step (fun _ => rfl) ?_;simp only [laws_heldIntSS.l0];exact ev_neg (by rw [marksII_length]; omega) (ev_some (by rw [show i = R.length by omega, List.take_length]))
  | succ d ih =>
    intro i hi;refine Ev.step (fun _ => rfl) ?_;simp only [laws_heldIntSS.l0];have hlen := marksII_length R a
    have hiR : i < R.length := by omega
    have hle := lensII_le R i;have ht := lensII_take R i hiR
    have hg : rd_L2 (marksII a R) (i : Int) = marksI (a + (lensII (R.take i) : Nat)) R[i].length := by rw [rdR_get (show i < (marksII a R).length by omega), marksII_get R a i hiR]
    rw [hg, wsucc (by omega)];refine ev_pos (by omega) (ev_pos (by omega) (Ev.bind (heldI_ev (a + (lensII (R.take i) : Nat)) R[i].length (by omega) (by omega) (hl _ (List.getElem_mem hiR))) (ev_neg (by omega) ?_)));rw [show a + (lensII (R.take i) : Nat) + (R[i].length : Int) = a + (lensII (R.take (i + 1)) : Nat) by omega];exact ih (i + 1) (by omega)
theorem heldSketch_ev (c s mn mx a : Int) (n m : Nat) (R : List (List Int)) (ha : 0 ≤ a) (hb : a + (n : Int) + (m : Int) + (lensII R : Nat) ≤ 1073741824) (hn : n ≤ 1048576) (hm : m ≤ 1048576) (hR : R.length ≤ 1048576) (hl : ∀ l ∈ R, l.length ≤ 1048576) :
    Ev (fun k => laws_heldSketch.f k c s mn mx (marksI a n) (marksI (a + (n : Int)) m) (marksII (a + (n : Int) + (m : Int)) R) a) (a + (n : Int) + (m : Int) + (lensII R : Nat)) := by
  unfold laws_heldSketch.f
  refine Ev.bind (heldI_ev a n ha (by omega) hn) (ev_neg (by omega) (Ev.bind (heldI_ev (a + (n : Int)) m (by omega) (by omega) hm) (ev_neg (by omega) ?_)))
  have := heldII_at (a + (n : Int) + (m : Int)) R (by omega) hb hR hl R.length 0 (by omega)
  rw [show lensII (R.take 0) = 0 from by simp [lensII]] at this
  exact Ev.bind (by simpa [laws_heldIntSS.f] using this) (ev_neg (by omega) (ev_some rfl))
def msp (a n : Nat) : List S70 := (List.range n).map fun j => ⟨((a + 2 * j : Nat) : Int), ((a + 2 * j + 1 : Nat) : Int)⟩
theorem msp_length (a n : Nat) : (msp a n).length = n := by simp [msp]
theorem msp_get (a n i : Nat) (h : i < (msp a n).length) : (msp a n)[i] = ⟨((a + 2 * i : Nat) : Int), ((a + 2 * i + 1 : Nat) : Int)⟩ := by simp [msp]
theorem markSpanS_at (a : Nat) (n : Nat) (hn : a + 2 * n ≤ 281474976702464) (d : Nat) : ∀ (i : Nat) (x3 : List S70), i + d = n → x3.length = n → x3.take i = (msp a n).take i →
    Ev (fun k => laws_markSpanS.l0 k x3 ((a + 2 * i : Nat) : Int) (i : Int)) (((a + 2 * n : Nat) : Int), msp a n) := by
  induction d with
  | zero =>
    intro i x3 hi hl ht;refine Ev.step (fun _ => rfl) ?_;simp only [laws_markSpanS.l0];refine ev_neg (by omega) (ev_some ?_);rw [take_all (ys := msp a n) (by rw [hl, msp_length]) (by rw [msp_length]; omega) ht, show i = n by omega]
  | succ d ih =>
    intro i x3 hi hl ht;refine Ev.step (fun _ => rfl) ?_;simp only [laws_markSpanS.l0];refine ev_pos (by omega) (ev_pos (by omega) (ev_bind0 rfl ?_));rw [wsucc (show i ≤ 281474976702464 by omega), Int.toNat_natCast, wsucc (show a + 2 * i ≤ 281474976702464 by omega), wsucc (show a + 2 * i + 1 ≤ 281474976702464 by omega)];rw [rdI_get (xs := x3.set i _) (show i < (x3.set i _).length by simp; omega)];simp only [List.getElem_set_self, List.set_set]
    have e : (⟨((a + 2 * i : Nat) : Int), ((a + 2 * i + 1 : Nat) : Int)⟩ : S70) = (msp a n)[i]'(by rw [msp_length]; omega) := by rw [msp_get]
    rw [e, show a + 2 * i + 1 + 1 = a + 2 * (i + 1) by omega];exact ih (i + 1) _ (by omega) (by simp [hl]) (take_set (ys := msp a n) (by rw [hl, msp_length]) (by rw [msp_length]; omega) ht)
theorem markSpanS_ev (x0 : List S70) (a : Nat) (hn : a + 2 * x0.length ≤ 281474976702464) : Ev (fun k => laws_markSpanS.f k x0 (a : Int)) (((a + 2 * x0.length : Nat) : Int), msp a x0.length) := by
  unfold laws_markSpanS.f
  exact markSpanS_at a x0.length hn x0.length 0 x0 (by omega) rfl (by simp)
theorem heldSpanS_at (a : Nat) (n : Nat) (hn : a + 2 * n ≤ 281474976702464) (d : Nat) : ∀ (i : Nat), i + d = n →
    Ev (fun k => laws_heldSpanS.l0 k (msp a n) ((a + 2 * i : Nat) : Int) (i : Int)) ((a + 2 * n : Nat) : Int) := by
  induction d with
  | zero =>
    intro i hi;refine Ev.step (fun _ => rfl) ?_;simp only [laws_heldSpanS.l0, msp_length];refine ev_neg (by omega) (ev_some ?_);rw [show i = n by omega]
  | succ d ih =>
    intro i hi;refine Ev.step (fun _ => rfl) ?_;simp only [laws_heldSpanS.l0, msp_length];rw [wsucc (show i ≤ 281474976702464 by omega), wsucc (show a + 2 * i ≤ 281474976702464 by omega), wsucc (show a + 2 * i + 1 ≤ 281474976702464 by omega), rdI_get (show i < (msp a n).length by rw [msp_length]; omega), msp_get];refine ev_pos (by omega) (ev_pos (by omega) (ev_pos rfl (ev_pos rfl ?_)));rw [show a + 2 * i + 1 + 1 = a + 2 * (i + 1) by omega];exact ih (i + 1) (by omega)
theorem heldSpanS_ev (a n : Nat) (hn : a + 2 * n ≤ 281474976702464) : Ev (fun k => laws_heldSpanS.f k (msp a n) (a : Int)) ((a + 2 * n : Nat) : Int) := by
  unfold laws_heldSpanS.f
  exact heldSpanS_at a n hn n 0 (by omega)
theorem Bx.cells10 {w : World} {g t : Nat} {v0 v1 v2 v3 v4 v5 v6 v7 v8 v9 : Value} (hb : Bx w g t #[v0, v1, v2, v3, v4, v5, v6, v7, v8, v9]) : w.cell? ⟨g, 0, none⟩ = some v0 ∧ w.cell? ⟨g, 1, none⟩ = some v1 ∧ w.cell? ⟨g, 2, none⟩ = some v2 ∧ w.cell? ⟨g, 3, none⟩ = some v3 ∧ w.cell? ⟨g, 4, none⟩ = some v4 ∧ w.cell? ⟨g, 5, none⟩ = some v5 ∧ w.cell? ⟨g, 6, none⟩ = some v6 ∧ w.cell? ⟨g, 7, none⟩ = some v7 ∧ w.cell? ⟨g, 8, none⟩ = some v8 ∧ w.cell? ⟨g, 9, none⟩ = some v9 := ⟨blk_cell hb 0, blk_cell hb 1, blk_cell hb 2, blk_cell hb 3, blk_cell hb 4, blk_cell hb 5, blk_cell hb 6, blk_cell hb 7, blk_cell hb 8, blk_cell hb 9⟩
structure Qd (w : World) (q : Sl) (l : List S70) : Prop where
  e : q.n = l.length
  le : l.length ≤ q.c
  C : k70.C w q.A l.length l
def Ek (w : World) (a b : Nat) (q x y z : Sl) (l : List S70) (h r : List Int) (R : List (List Int)) : Prop :=
  Kd.R k70 70 w a (fun k => k < b) (.slice q.A q.n q.c) l ∧ Sk w a b x y z h r R
structure Ed (w : World) (q x y z : Sl) (l : List S70) (h r : List Int) (R : List (List Int)) : Prop where
  q : Qd w q l
  s : Rd w x y z h r R
section
variable {w w1 w' : World} {a b a' b' : Nat} {q x y z : Sl} {l : List S70} {h r : List Int} {R : List (List Int)}
theorem Ek.below (s : Ek w a b q x y z l h r R) (hb : Below w.heap.size w w1) : Ek w1 a b q x y z l h r R := ⟨Kd.R_below s.1 hb, s.2.below hb⟩
theorem Ek.kp (s : Ek w a' b' q x y z l h r R) (k : Kp w w1 a b) (ha : b ≤ a' ∨ b' ≤ a) : Ek w1 a' b' q x y z l h r R :=
  ⟨Kd.R_mono (Kd.R_move (Kd.R_bound s.1) (fun i hi => k.kept.2 i hi.2.2.1 (fun hs => by have := hi.1; have := hi.2.1; omega))) (fun _ hk => hk.1), s.2.kp k ha⟩
theorem Ed.below (s : Ed w q x y z l h r R) (hb : Below w.heap.size w w1) : Ed w1 q x y z l h r R := ⟨⟨s.q.e, s.q.le, Kd.C_below s.q.C hb⟩, s.s.below hb⟩
theorem Ek.rd (s : Ek w a b q x y z l h r R) : Ed w q x y z l h r R := by
  obtain ⟨h1, h2, h3⟩ := Kd.R_reads' s.1
  exact ⟨⟨h1, by omega, h3⟩, s.2.rd⟩
theorem Ek.of {base : Nat} {ok2 ok4 ok5 ok6 : Nat → Prop} {v2 v4 v5 v6 : Value} (h2 : Kd.R k70 70 w' base ok2 v2 l) (h4 : Kd.R (Kd.int .i64) 3 w' base ok4 v4 h) (h5 : Kd.R (Kd.int .i64) 3 w' base ok5 v5 r) (h6 : Kd.S (Kd.slice 3 (Kd.int .i64)) 24 w' base ok6 v6 R) (hok5 : ∀ k, ok5 k → some k ≠ v4.ownBlock) (hok6 : ∀ k, ok6 k → some k ≠ v4.ownBlock ∧ some k ≠ v5.ownBlock) :
    ∃ q x y z : Sl, v2 = .slice q.A q.n q.c ∧ v4 = .slice x.A x.n x.c ∧ v5 = .slice y.A y.n y.c ∧ v6 = .slice z.A z.n z.c ∧ Ek w' base w'.heap.size q x y z l h r R := by
  obtain ⟨A2, c2, rfl⟩ := Kd.R_slice h2
  obtain ⟨x, y, z, e4, e5, e6, hs⟩ := Sk.of h4 h5 h6 hok5 hok6
  exact ⟨⟨A2, _, c2⟩, x, y, z, rfl, e4, e5, e6, Kd.R_mono (Kd.R_bound h2) (fun _ hk => hk.2.2.1), hs⟩
def SkP (P : Nat → Prop) (w : World) (a b : Nat) (x y z : Sl) (h r : List Int) (R : List (List Int)) : Prop :=
  Kd.R (Kd.int .i64) 3 w a (fun k => k < b ∧ P k) (.slice x.A x.n x.c) h ∧ Kd.R (Kd.int .i64) 3 w a (fun k => (k < b ∧ some k ≠ (Value.slice x.A x.n x.c).ownBlock) ∧ P k) (.slice y.A y.n y.c) r ∧
  Kd.S (Kd.slice 3 (Kd.int .i64)) 24 w a (fun k => (k < b ∧ some k ≠ (Value.slice x.A x.n x.c).ownBlock ∧ some k ≠ (Value.slice y.A y.n y.c).ownBlock) ∧ P k) (.slice z.A z.n z.c) R
theorem Ek.apart (s : Ek w a b q x y z l h r R) : SkP (fun k => some k ≠ (Value.slice q.A q.n q.c).ownBlock) w a b x y z h r R :=
  ⟨Kd.R_apart' s.2.1 (Kd.R_typed s.1) (by decide), Kd.R_apart' s.2.2.1 (Kd.R_typed s.1) (by decide), Kd.S_apart' s.2.2.2 (Kd.R_typed s.1) (by decide)⟩
theorem SkP.below {P : Nat → Prop} (s : SkP P w a b x y z h r R) (hb : Below w.heap.size w w1) : SkP P w1 a b x y z h r R := ⟨Kd.R_below s.1 hb, Kd.R_below s.2.1 hb, Kd.S_below s.2.2 hb⟩
theorem SkP.kept {P S : Nat → Prop} (s : SkP P w a b x y z h r R) (hk : Kept w w1 S) (hne : ∀ k, P k → ¬ S k) : SkP P w1 a b x y z h r R :=
  ⟨Kd.R_kept s.1 hk (fun k h => hne k h.2), Kd.R_kept s.2.1 hk (fun k h => hne k h.2), Kd.S_kept s.2.2 hk (fun k h => hne k h.2)⟩
end

set_option maxHeartbeats 4000000 in
theorem mark_callP (P : Nat → Prop) (k : Nat) (hm : Aside0 (MkI k)) {w : World} {a b : Nat} {x y z : Sl} {h r : List Int} {R : List (List Int)} (c s mn mx k0 : Int) (u : SkP P w a b x y z h r R) (ha : a ≤ w.heap.size) (hb : b ≤ w.heap.size)
    (hk0 : 0 ≤ k0) (hkb : k0 + (h.length : Int) + (r.length : Int) + (lensII R : Nat) ≤ 1073741824) (hh : h.length ≤ 1048576) (hr : r.length ≤ 1048576) (hR : R.length ≤ 1048576) (hl : ∀ l ∈ R, l.length ≤ 1048576) :
    Calls Try.prog 53 #[.agg #[.int .i64 c, .int .i64 s, .int .i64 mn, .int .i64 mx, .slice x.A x.n x.c, .slice y.A y.n y.c, .slice z.A z.n z.c], .int .i64 k0] w fun e w' => e = .returned (.int .i64 (k0 + (h.length : Int) + (r.length : Int) + (lensII R : Nat))) ∧
      Sk w' a b x y z (marksI k0 h.length) (marksI (k0 + (h.length : Int)) r.length) (marksII (k0 + (h.length : Int) + (r.length : Int)) R) ∧ Kp w w' a b ∧ Kept w w' P := by
  obtain ⟨ux, uy, uz⟩ := u
  have hB := Bx.new w 27 #[.int .i64 c, .int .i64 s, .int .i64 mn, .int .i64 mx, .slice x.A x.n x.c, .slice y.A y.n y.c, .slice z.A z.n z.c]
  have hb0 : Below w.heap.size w (w.alloc (.cells #[.int .i64 c, .int .i64 s, .int .i64 mn, .int .i64 mx, .slice x.A x.n x.c, .slice y.A y.n y.c, .slice z.A z.n z.c] 27)) := below_alloc (Below.refl _ _) _
  have call1 := fun W (hW : Below w.heap.size w W) => markI_call (b := b) k k0 (Kd.R_below ux hW) (fun _ hq => hq.1) (Nat.le_trans ha hW.size) (hm.out h k0 hh hk0 (by omega))
  have call2 := fun W (uy : Kd.R (Kd.int .i64) 3 W a (fun k => (k < b ∧ some k ≠ (Value.slice x.A x.n x.c).ownBlock) ∧ P k) (.slice y.A y.n y.c) r) (ha : a ≤ W.heap.size) => markI_call (b := b) k (k0 + (h.length : Int)) uy (fun _ hq => hq.1.1) ha (hm.out r (k0 + (h.length : Int)) hr (by omega) (by omega))
  have call3 := fun W (uz : Kd.S (Kd.slice 3 (Kd.int .i64)) 24 W a (fun k => (k < b ∧ some k ≠ (Value.slice x.A x.n x.c).ownBlock ∧ some k ≠ (Value.slice y.A y.n y.c).ownBlock) ∧ P k) (.slice z.A z.n z.c) R) (ha : a ≤ W.heap.size) => markII_call (b := b) k ⟨fun l k0 h1 h2 h3 => hm.out l k0 h1 h2 h3⟩ (k0 + (h.length : Int) + (r.length : Int)) uz (fun _ hq => hq.1.1) ha (by omega) hkb hR hl
  have UX := Aside0.mk ux
  have UY := Aside0.mk uy
  have UZ := Aside0.mk uz
  have HBX := Aside0.mk hB
  have HB0 := Aside0.mk hb0
  have HBB := Aside0.mk hb
  have HA := Aside0.mk ha
  have K1 := Aside0.mk call1
  have K2 := Aside0.mk call2
  have K3 := Aside0.mk call3
  clear ux uy uz hB hb0 hb ha call1 call2 call3 hkb hh hr hR hl hk0
  go_enter Try.func53, Try.ntmps53
  go_wp2_with fail
  refine (K1.out _ HB0.out).mono ?_
  rintro e w1 ⟨rfl, hr1, hkp1, hkt1⟩
  have bx1 := Bx.kp HBX.out hkp1 (.inr HBB.out)
  have y1 := row_kept (Kd.R_below UY.out HB0.out) hkt1 (fun q hq hs => (UY.out.1 q hq).1.2 hs)
  have z1 := Kd.S_kept (Kd.S_below UZ.out HB0.out) hkt1 (fun q hq hs => hq.1.2.1 hs)
  have cells := bx1.cells
  obtain ⟨_, _, _, _, _, c5, _⟩ := cells
  have T1 := Aside0.mk (((Kept.refl w P).below HB0.out).then_ hkt1 (fun q hq => .inl (UX.out.1 q hq.symm).2))
  have X1 := Aside0.mk hr1
  have KP1 := Aside0.mk hkp1
  have BX1 := Aside0.mk bx1
  have Y1 := Aside0.mk y1
  have Z1 := Aside0.mk z1
  clear hr1 hkp1 hkt1 bx1 y1 z1
  go_wp2_with fail
  clear c5
  refine (K2.out _ Y1.out (Nat.le_trans HA.out (Nat.le_trans HB0.out.size KP1.out.kept.1))).mono ?_
  rintro e w2 ⟨rfl, hr2, hkp2, hkt2⟩
  have bx2 := Bx.kp BX1.out hkp2 (.inr HBB.out)
  have x2 := row_kept X1.out hkt2 (fun q hq hs => (UY.out.1 q hs.symm).1.2 hq.symm)
  have z2 := Kd.S_kept Z1.out hkt2 (fun q hq hs => hq.1.2.2 hs)
  have cells := bx2.cells
  obtain ⟨_, _, _, _, _, _, c6⟩ := cells
  have T2 := Aside0.mk (T1.out.then_ hkt2 (fun q hq => .inl (UY.out.1 q hq.symm).2))
  have X2 := Aside0.mk x2
  have KP2 := Aside0.mk (KP1.out.trans hkp2)
  have BX2 := Aside0.mk bx2
  have Y2 := Aside0.mk hr2
  have Z2 := Aside0.mk z2
  clear hr2 hkp2 hkt2 bx2 x2 z2
  go_wp2_with fail
  clear c6
  refine (K3.out _ Z2.out (Nat.le_trans HA.out (Nat.le_trans HB0.out.size KP2.out.kept.1))).mono ?_
  rintro e w3 ⟨rfl, hr3, hkp3, hkt3⟩
  have x3 := row_kept X2.out hkt3 (fun q hq hs => hs.1.2.1 hq.symm)
  have y3 := row_kept Y2.out hkt3 (fun q hq hs => hs.1.2.2 hq.symm)
  have T3 := Aside0.mk (T2.out.then_ hkt3 (fun q hq => .inl hq.2))
  have S3 := Aside0.mk (show Sk w3 a b x y z _ _ _ from ⟨Kd.R_mono x3 (fun _ hk => hk.1), Kd.R_mono y3 (fun _ hk => hk.1), Kd.S_mono hr3 (fun _ hk => hk.1)⟩)
  have KP3 := Aside0.mk (((Kp.of HB0.out).trans KP2.out).trans hkp3)
  clear hr3 hkp3 hkt3 x3 y3
  go_wp2
  go_ret
  exact ⟨rfl, S3.out, KP3.out, T3.out⟩

theorem markQ_call (k : Nat) {w : World} {a b : Nat} {v : Value} {l ml : List S70} {ok : Nat → Prop} (k0 k1 : Int) (u : Kd.R k70 70 w a ok v l) (hok : ∀ k, ok k → k < b) (ha : a ≤ w.heap.size) (he : laws_markSpanS.f k l k0 = some (k1, ml)) :
    Calls Try.prog 54 #[v, .int .i64 k0] w fun e w' => e = .returned (.int .i64 k1) ∧ Kd.R k70 70 w' a ok v ml ∧ Kp w w' a b ∧ Kept w w' (fun k => some k = v.ownBlock) := by
  obtain ⟨w0, hw0, hB⟩ : ∃ w0 : World, w0.heap.size = a ∧ Below a w0 w := by
    refine ⟨{ w with heap := w.heap.extract 0 a }, by simp; omega, ⟨rfl, rfl, rfl, by simp; omega, fun i hi => ?_⟩⟩
    simp [Array.getElem?_extract]
    omega
  subst hw0
  have u1 : Kd.R k70 70 w w0.heap.size (fun k => some k = v.ownBlock) v l := Kd.R_tight rfl u
  refine (laws_markSpanS.calls k (fun k => some k = v.ownBlock) v l k0 _ _ w0 w hB u1 he).mono ?_
  rintro e w' ⟨rfl, hr, hb, hk⟩
  refine ⟨rfl, Kd.R_reok rfl hr (fun k hk => u.1 k hk), ⟨hb.os.trans hB.os.symm, hb.tape.trans hB.tape.symm, hb.output.trans hB.output.symm, hk.mono (fun i hi => ⟨Kd.R_base u i hi.symm, hok i (u.1 i hi.symm)⟩)⟩, hk⟩
set_option maxHeartbeats 4000000 in
theorem markE_call (k : Nat) (hm : Aside0 (MkI k)) {w : World} {a b : Nat} {q x y z : Sl} {l ml : List S70} {h r : List Int} {R : List (List Int)} (ke wi c s lo hi k0 k1 M : Int) (u : Ek w a b q x y z l h r R) (ha : a ≤ w.heap.size) (hb : b ≤ w.heap.size)
    (hk1 : 0 ≤ k1) (he : Aside0 (laws_markSpanS.f k l k0 = some (k1, ml))) (lm : Aside0 (k1 + (h.length : Int) + (r.length : Int) + (lensII R : Nat) = M ∧ M ≤ 1073741824 ∧ h.length ≤ 1048576 ∧ r.length ≤ 1048576 ∧ R.length ≤ 1048576 ∧ ∀ l ∈ R, l.length ≤ 1048576)) :
    Calls Try.prog 24 #[.agg #[.int .i64 ke, .int .i64 wi, .slice q.A q.n q.c, .int .i64 c, .int .i64 s, .int .i64 lo, .int .i64 hi, .slice x.A x.n x.c, .slice y.A y.n y.c, .slice z.A z.n z.c], .int .i64 k0] w fun e w' => e = .returned (.int .i64 M) ∧
      Ek w' a b q x y z ml (marksI k1 h.length) (marksI (k1 + (h.length : Int)) r.length) (marksII (k1 + (h.length : Int) + (r.length : Int)) R) ∧ Kp w w' a b := by
  have hB := Bx.new w 34 #[.int .i64 ke, .int .i64 wi, .slice q.A q.n q.c, .int .i64 c, .int .i64 s, .int .i64 lo, .int .i64 hi, .slice x.A x.n x.c, .slice y.A y.n y.c, .slice z.A z.n z.c]
  have hb0 : Below w.heap.size w (w.alloc (.cells #[.int .i64 ke, .int .i64 wi, .slice q.A q.n q.c, .int .i64 c, .int .i64 s, .int .i64 lo, .int .i64 hi, .slice x.A x.n x.c, .slice y.A y.n y.c, .slice z.A z.n z.c] 34)) := below_alloc (Below.refl _ _) _
  have uq := u.1
  have up := u.apart
  have call1 := fun W (hW : Below w.heap.size w W) => markQ_call (b := b) k k0 k1 (Kd.R_below uq hW) (fun _ hq => hq) (Nat.le_trans ha hW.size) he.out
  have call2 := fun W (us : SkP (fun k => some k ≠ (Value.slice q.A q.n q.c).ownBlock) W a b x y z h r R) (hW : w.heap.size ≤ W.heap.size) => mark_callP (fun k => some k ≠ (Value.slice q.A q.n q.c).ownBlock) k hm c s lo hi k1 us (Nat.le_trans ha hW) (Nat.le_trans hb hW) hk1 (by have := lm.out; omega) lm.out.2.2.1 lm.out.2.2.2.1 lm.out.2.2.2.2.1 lm.out.2.2.2.2.2
  rw [lm.out.1] at call2
  have UQ := Aside0.mk uq
  have UP := Aside0.mk up
  have HBX := Aside0.mk hB
  have HB0 := Aside0.mk hb0
  have HBB := Aside0.mk hb
  have K1 := Aside0.mk call1
  have K2 := Aside0.mk call2
  clear uq up hB hb0 hb call1 call2 u lm ha he
  go_enter Try.func24, Try.ntmps24
  go_wp2_with fail
  refine (K1.out _ HB0.out).mono ?_
  rintro e w1 ⟨rfl, hr1, hkp1, hkt1⟩
  have bx1 := Bx.kp HBX.out hkp1 (.inr HBB.out)
  have s1 := SkP.kept (UP.out.below HB0.out) hkt1 (fun q hq hs => hq hs)
  have cells := bx1.cells10
  obtain ⟨_, _, _, c3, c4, c5, c6, c7, c8, c9⟩ := cells
  have Q1 := Aside0.mk hr1
  have KP1 := Aside0.mk hkp1
  have S1 := Aside0.mk s1
  clear hr1 hkp1 hkt1 bx1 s1
  go_wp2_with fail
  clear c3 c4 c5 c6 c7 c8 c9
  refine (K2.out _ S1.out (Nat.le_trans HB0.out.size KP1.out.kept.1)).mono ?_
  rintro e w2 ⟨rfl, hs2, hkp2, hkt2⟩
  have q2 : Kd.R k70 70 w2 a (fun k => k < b) (.slice q.A q.n q.c) ml := Kd.R_reok rfl (Kd.R_kept (Kd.R_tight rfl Q1.out) hkt2 (fun k hk hn => hn hk)) (fun k hk => Q1.out.1 k hk)
  have E2 := Aside0.mk (show Ek w2 a b q x y z ml _ _ _ from ⟨q2, hs2⟩)
  have KP2 := Aside0.mk (((Kp.of HB0.out).trans KP1.out).trans hkp2)
  clear hs2 hkp2 hkt2 q2
  go_wp2
  go_ret
  exact ⟨rfl, E2.out, KP2.out⟩
theorem eqE_callD (k : Nat) {w : World} {q x y z q' x' y' z' : Sl} {l : List S70} {h r : List Int} {R : List (List Int)} (ke wi c s lo hi : Int) (u : Ed w q x y z l h r R) (u' : Ed w q' x' y' z' l h r R) (he : laws_eqEntry.f k ke wi l c s lo hi h r R ke wi l c s lo hi h r R = some true) :
    Calls Try.prog 21 #[.agg #[.int .i64 ke, .int .i64 wi, .slice q.A q.n q.c, .int .i64 c, .int .i64 s, .int .i64 lo, .int .i64 hi, .slice x.A x.n x.c, .slice y.A y.n y.c, .slice z.A z.n z.c], .agg #[.int .i64 ke, .int .i64 wi, .slice q'.A q'.n q'.c, .int .i64 c, .int .i64 s, .int .i64 lo, .int .i64 hi, .slice x'.A x'.n x'.c, .slice y'.A y'.n y'.c, .slice z'.A z'.n z'.c]] w fun e w' => e = .returned (.bool true) ∧ Below w.heap.size w w' := by
  rw [u.q.e, u.s.e4, u.s.e5, u.s.e6, u'.q.e, u'.s.e4, u'.s.e5, u'.s.e6]
  exact laws_eqEntry.calls k ke wi _ _ l c s lo hi _ _ h _ _ r _ _ R ke wi _ _ l c s lo hi _ _ h _ _ r _ _ R true w u.q.C u.q.le u.s.C4 u.s.l4 u.s.C5 u.s.l5 u.s.C6 u.s.l6 u'.q.C u'.q.le u'.s.C4 u'.s.l4 u'.s.C5 u'.s.l5 u'.s.C6 u'.s.l6 ⟨rfl⟩ he

theorem heldE_callD (k : Nat) {w : World} {q x y z : Sl} {l : List S70} {h r : List Int} {R : List (List Int)} (ke wi c s lo hi k0 k1 : Int) (u : Ed w q x y z l h r R) (he : laws_heldEntry.f k ke wi l c s lo hi h r R k0 = some k1) :
    Calls Try.prog 25 #[.agg #[.int .i64 ke, .int .i64 wi, .slice q.A q.n q.c, .int .i64 c, .int .i64 s, .int .i64 lo, .int .i64 hi, .slice x.A x.n x.c, .slice y.A y.n y.c, .slice z.A z.n z.c], .int .i64 k0] w fun e w' => e = .returned (.int .i64 k1) ∧ Below w.heap.size w w' := by
  rw [u.q.e, u.s.e4, u.s.e5, u.s.e6]
  exact laws_heldEntry.calls k ke wi _ _ l c s lo hi _ _ h _ _ r _ _ R k0 k1 w u.q.C u.q.le u.s.C4 u.s.l4 u.s.C5 u.s.l5 u.s.C6 u.s.l6 he
structure Yf (W0 w : World) (g T : Nat) (Z : Array Value) (a : Nat) : Prop where
  bx : Bx w g T Z
  lo : W0.heap.size ≤ g
  hi : g < a
theorem sz_up (w : World) (o : Obj) : w.heap.size ≤ (w.alloc o).heap.size := by simp
section
variable {W0 wp w1 w' : World} {T g : Nat} {Z : Array Value} {a b a' : Nat} {x y z : Sl} {h r : List Int} {R : List (List Int)} {y' : Sl} {Z' : Array Value}
theorem reg_new (HB : Below W0.heap.size W0 wp) (hb : Below (wp.alloc (.cells Z T)).heap.size (wp.alloc (.cells Z T)) w1) (hm : Made (wp.alloc (.cells Z T)) w1 a b) : Below W0.heap.size W0 w1 ∧ Yf W0 w1 wp.heap.size T Z a ∧ Made wp w1 a b ∧ Below wp.heap.size wp w1 := by
  have s : (wp.alloc (.cells Z T)).heap.size = wp.heap.size + 1 := by simp
  have h1 := hm.1
  have hp := below_step (below_alloc (Below.refl _ wp) (.cells Z T)) hb
  exact ⟨below_step HB hp, ⟨(Bx.new wp T Z).below hb, HB.size, by omega⟩, ⟨by omega, hm.2⟩, hp⟩
theorem reg_new0 (hb : Below (W0.alloc (.cells Z T)).drew.heap.size (W0.alloc (.cells Z T)).drew w1) (hm : Made (W0.alloc (.cells Z T)).drew w1 a b) : Below W0.heap.size W0 w1 ∧ Yf W0 w1 W0.heap.size T Z a ∧ Made W0 w1 a b ∧ Below W0.heap.size W0 w1 := by
  have s : (W0.alloc (.cells Z T)).drew.heap.size = W0.heap.size + 1 := by simp
  have h1 := hm.1
  have hd : Below (W0.alloc (.cells Z T)).heap.size (W0.alloc (.cells Z T)) (W0.alloc (.cells Z T)).drew := below_drew (Below.refl _ _)
  have hp := below_step (below_step (below_alloc (Below.refl _ W0) (.cells Z T)) hd) hb
  exact ⟨hp, ⟨((Bx.new W0 T Z).below hd).below hb, Nat.le_refl _, by omega⟩, ⟨by omega, hm.2⟩, hp⟩
theorem reg_old (HB : Below W0.heap.size W0 wp) (y : Yf W0 wp g T Z a') (hb : Below wp.heap.size wp w1) (hm : Made wp w1 a b) : Below W0.heap.size W0 w1 ∧ Yf W0 w1 g T Z a := by
  have := y.bx.lt
  have := hm.1
  exact ⟨below_step HB hb, y.bx.below hb, y.lo, by omega⟩
end
structure Ad (w : World) (q x y z : Sl) (l : List S113) (h r : List Int) (R : List (List Int)) : Prop where
  qe : q.n = l.length
  ql : l.length ≤ q.c
  qC : k113.C w q.A l.length l
  s : Rd w x y z h r R
theorem Ad.below {w w1 : World} {q x y z : Sl} {l : List S113} {h r : List Int} {R : List (List Int)} (s : Ad w q x y z l h r R) (hb : Below w.heap.size w w1) : Ad w1 q x y z l h r R := ⟨s.qe, s.ql, Kd.C_below s.qC hb, s.s.below hb⟩
def Er (w : World) (a b : Nat) (q x y z : Sl) (l : List S70) (h r : List Int) (R : List (List Int)) : Prop :=
  Kd.R k70 70 w a (fun k => k < b) (.slice q.A q.n q.c) l ∧ Rk w a b x y z h r R
section
variable {w w1 w' : World} {a b a' b' : Nat} {q x y z : Sl} {l : List S70} {h r : List Int} {R : List (List Int)}
theorem Er.below (s : Er w a b q x y z l h r R) (hb : Below w.heap.size w w1) : Er w1 a b q x y z l h r R := ⟨Kd.R_below s.1 hb, s.2.below hb⟩
theorem Er.kp (s : Er w a' b' q x y z l h r R) (k : Kp w w1 a b) (ha : b ≤ a' ∨ b' ≤ a) : Er w1 a' b' q x y z l h r R :=
  ⟨Kd.R_mono (Kd.R_move (Kd.R_bound s.1) (fun i hi => k.kept.2 i hi.2.2.1 (fun hs => by have := hi.1; have := hi.2.1; omega))) (fun _ hk => hk.1), s.2.kp k ha⟩
theorem Er.rd (s : Er w a b q x y z l h r R) : Ed w q x y z l h r R := by
  obtain ⟨h1, h2, h3⟩ := Kd.R_reads' s.1
  exact ⟨⟨h1, by omega, h3⟩, s.2.rd⟩
end

theorem Bx.fill10 {w : World} {g t : Nat} {a0 a1 a2 a3 a4 a5 a6 a7 a8 a9 : Value} (hb : Bx w g t #[a0, a1, a2, a3, a4, a5, a6, a7, a8, a9]) (v0 v1 v2 v3 v4 v5 v6 v7 v8 v9 : Value) :
    Bx ((((((((((w.setCell ⟨g, 0, none⟩ v0).setCell ⟨g, 1, none⟩ v1).setCell ⟨g, 2, none⟩ v2).setCell ⟨g, 3, none⟩ v3).setCell ⟨g, 4, none⟩ v4).setCell ⟨g, 5, none⟩ v5).setCell ⟨g, 6, none⟩ v6).setCell ⟨g, 7, none⟩ v7).setCell ⟨g, 8, none⟩ v8).setCell ⟨g, 9, none⟩ v9) g t #[v0, v1, v2, v3, v4, v5, v6, v7, v8, v9] ∧ Kp w ((((((((((w.setCell ⟨g, 0, none⟩ v0).setCell ⟨g, 1, none⟩ v1).setCell ⟨g, 2, none⟩ v2).setCell ⟨g, 3, none⟩ v3).setCell ⟨g, 4, none⟩ v4).setCell ⟨g, 5, none⟩ v5).setCell ⟨g, 6, none⟩ v6).setCell ⟨g, 7, none⟩ v7).setCell ⟨g, 8, none⟩ v8).setCell ⟨g, 9, none⟩ v9) g (g + 1) := by
  have hg : g ≤ g ∧ g < g + 1 := ⟨Nat.le_refl _, Nat.lt_succ_self _⟩
  refine ⟨?_, (((((((((Kp.set hg v0).trans (Kp.set hg v1)).trans (Kp.set hg v2)).trans (Kp.set hg v3)).trans (Kp.set hg v4)).trans (Kp.set hg v5)).trans (Kp.set hg v6)).trans (Kp.set hg v7)).trans (Kp.set hg v8)).trans (Kp.set hg v9)⟩
  have h0 : Bx _ g t #[v0, a1, a2, a3, a4, a5, a6, a7, a8, a9] := blk_put hb 0 v0 rfl
  have h1 : Bx _ g t #[v0, v1, a2, a3, a4, a5, a6, a7, a8, a9] := blk_put h0 1 v1 rfl
  have h2 : Bx _ g t #[v0, v1, v2, a3, a4, a5, a6, a7, a8, a9] := blk_put h1 2 v2 rfl
  have h3 : Bx _ g t #[v0, v1, v2, v3, a4, a5, a6, a7, a8, a9] := blk_put h2 3 v3 rfl
  have h4 : Bx _ g t #[v0, v1, v2, v3, v4, a5, a6, a7, a8, a9] := blk_put h3 4 v4 rfl
  have h5 : Bx _ g t #[v0, v1, v2, v3, v4, v5, a6, a7, a8, a9] := blk_put h4 5 v5 rfl
  have h6 : Bx _ g t #[v0, v1, v2, v3, v4, v5, v6, a7, a8, a9] := blk_put h5 6 v6 rfl
  have h7 : Bx _ g t #[v0, v1, v2, v3, v4, v5, v6, v7, a8, a9] := blk_put h6 7 v7 rfl
  have h8 : Bx _ g t #[v0, v1, v2, v3, v4, v5, v6, v7, v8, a9] := blk_put h7 8 v8 rfl
  exact blk_put h8 9 v9 rfl

theorem reg_end_er {W0 wp w' : World} {T g a b : Nat} {Z Z' : Array Value} {q x y z : Sl} {l : List S70} {h r : List Int} {R : List (List Int)} (HB : Below W0.heap.size W0 wp) (y0 : Yf W0 wp g T Z a) (m : W0.heap.size ≤ a ∧ a ≤ b ∧ b ≤ wp.heap.size) (s : Er wp a b q x y z l h r R) (f : Bx w' g T Z' ∧ Kp wp w' g (g + 1)) : Er w' a b q x y z l h r R ∧ Bx w' g T Z' ∧ Below W0.heap.size W0 w' ∧ W0.heap.size ≤ g ∧ g < w'.heap.size ∧ W0.heap.size ≤ a ∧ a ≤ b ∧ b ≤ w'.heap.size := by
  have := y0.hi
  have := f.2.kept.1
  exact ⟨s.kp f.2 (.inl (by omega)), f.1, below_kp HB f.2 y0.lo HB.size, y0.lo, f.1.lt, m.1, m.2.1, by omega⟩
theorem reg_last_er {W0 wp : World} {a b : Nat} {q x y z : Sl} {l : List S70} {h r : List Int} {R : List (List Int)} (F : Array Value) (T : Nat) (HB : Below W0.heap.size W0 wp) (m : W0.heap.size ≤ a ∧ a ≤ b ∧ b ≤ wp.heap.size) (s : Er wp a b q x y z l h r R) : Er (wp.alloc (.cells F T)) a b q x y z l h r R ∧ Bx (wp.alloc (.cells F T)) wp.heap.size T F ∧ Below W0.heap.size W0 (wp.alloc (.cells F T)) ∧ W0.heap.size ≤ wp.heap.size ∧ wp.heap.size < (wp.alloc (.cells F T)).heap.size ∧ W0.heap.size ≤ a ∧ a ≤ b ∧ b ≤ (wp.alloc (.cells F T)).heap.size := by
  have s1 : (wp.alloc (.cells F T)).heap.size = wp.heap.size + 1 := by simp
  exact ⟨s.below (below_alloc (Below.refl _ wp) (.cells F T)), Bx.new wp T F, below_step HB (below_alloc (Below.refl _ wp) (.cells F T)), HB.size, by omega, m.1, m.2.1, by omega⟩

theorem reg_end_ek {W0 wp w' : World} {T g a b : Nat} {Z Z' : Array Value} {q x y z : Sl} {l : List S70} {h r : List Int} {R : List (List Int)} (HB : Below W0.heap.size W0 wp) (y0 : Yf W0 wp g T Z a) (m : W0.heap.size ≤ a ∧ a ≤ b ∧ b ≤ wp.heap.size) (s : Ek wp a b q x y z l h r R) (f : Bx w' g T Z' ∧ Kp wp w' g (g + 1)) : Ek w' a b q x y z l h r R ∧ Bx w' g T Z' ∧ Below W0.heap.size W0 w' ∧ W0.heap.size ≤ g ∧ g < w'.heap.size ∧ W0.heap.size ≤ a ∧ a ≤ b ∧ b ≤ w'.heap.size := by
  have := y0.hi
  have := f.2.kept.1
  exact ⟨s.kp f.2 (.inl (by omega)), f.1, below_kp HB f.2 y0.lo HB.size, y0.lo, f.1.lt, m.1, m.2.1, by omega⟩
theorem reg_last_ek {W0 wp : World} {a b : Nat} {q x y z : Sl} {l : List S70} {h r : List Int} {R : List (List Int)} (F : Array Value) (T : Nat) (HB : Below W0.heap.size W0 wp) (m : W0.heap.size ≤ a ∧ a ≤ b ∧ b ≤ wp.heap.size) (s : Ek wp a b q x y z l h r R) : Ek (wp.alloc (.cells F T)) a b q x y z l h r R ∧ Bx (wp.alloc (.cells F T)) wp.heap.size T F ∧ Below W0.heap.size W0 (wp.alloc (.cells F T)) ∧ W0.heap.size ≤ wp.heap.size ∧ wp.heap.size < (wp.alloc (.cells F T)).heap.size ∧ W0.heap.size ≤ a ∧ a ≤ b ∧ b ≤ (wp.alloc (.cells F T)).heap.size := by
  have s1 : (wp.alloc (.cells F T)).heap.size = wp.heap.size + 1 := by simp
  exact ⟨s.below (below_alloc (Below.refl _ wp) (.cells F T)), Bx.new wp T F, below_step HB (below_alloc (Below.refl _ wp) (.cells F T)), HB.size, by omega, m.1, m.2.1, by omega⟩

theorem toE_callD (k : Nat) {w : World} {q x y z : Sl} {l : List S113} {h r : List Int} {R : List (List Int)} (ke wi c s lo hi : Int) (l' : List S70) (u : Ad w q x y z l h r R) (he : laws_toEntry.f k ke wi l c s lo hi h r R = some (ke, wi, l', c, s, lo, hi, h, r, R)) :
    Calls Try.prog 32 #[.agg #[.int .i64 ke, .int .i64 wi, .slice q.A q.n q.c, .int .i64 c, .int .i64 s, .int .i64 lo, .int .i64 hi, .slice x.A x.n x.c, .slice y.A y.n y.c, .slice z.A z.n z.c]] w fun e w' => ∃ (q' x' y' z' : Sl) (a b : Nat), e = .returned (.agg #[.int .i64 ke, .int .i64 wi, .slice q'.A q'.n q'.c, .int .i64 c, .int .i64 s, .int .i64 lo, .int .i64 hi, .slice x'.A x'.n x'.c, .slice y'.A y'.n y'.c, .slice z'.A z'.n z'.c]) ∧ Ek w' a b q' x' y' z' l' h r R ∧ Made w w' a b ∧ Below w.heap.size w w' := by
  rw [u.qe, u.s.e4, u.s.e5, u.s.e6]
  refine (laws_toEntry.calls k ke wi _ _ l c s lo hi _ _ h _ _ r _ _ R ke wi l' c s lo hi h r R w u.qC u.ql u.s.C4 u.s.l4 u.s.C5 u.s.l5 u.s.C6 u.s.l6 he).mono ?_
  rintro e w' ⟨v2, v4, v5, v6, rfl, h2, h4, h5, h6, hb⟩
  obtain ⟨q', x', y', z', rfl, rfl, rfl, rfl, hs⟩ := Ek.of h2 h4 h5 h6 (fun _ hk => hk) (fun _ hk => hk)
  exact ⟨q', x', y', z', _, _, rfl, hs, ⟨Nat.le_refl _, hb.size, Nat.le_refl _⟩, hb⟩
theorem szE_callD (k : Nat) {w : World} {q x y z : Sl} {l : List S113} {h r : List Int} {R : List (List Int)} (ke wi c s lo hi k0 k1 : Int) (u : Ad w q x y z l h r R) (he : laws_szEntry.f k ke wi l c s lo hi h r R k0 = some k1) :
    Calls Try.prog 31 #[.agg #[.int .i64 ke, .int .i64 wi, .slice q.A q.n q.c, .int .i64 c, .int .i64 s, .int .i64 lo, .int .i64 hi, .slice x.A x.n x.c, .slice y.A y.n y.c, .slice z.A z.n z.c], .int .i64 k0] w fun e w' => e = .returned (.int .i64 k1) ∧ Below w.heap.size w w' := by
  rw [u.qe, u.s.e4, u.s.e5, u.s.e6]
  exact laws_szEntry.calls k ke wi _ _ l c s lo hi _ _ h _ _ r _ _ R k0 k1 w u.qC u.ql u.s.C4 u.s.l4 u.s.C5 u.s.l5 u.s.C6 u.s.l6 he

def Qk (w : World) (a b : Nat) (q : Sl) (l : List S70) : Prop := Kd.R k70 70 w a (fun k => k < b) (.slice q.A q.n q.c) l
section
variable {w w1 : World} {a b a' b' : Nat} {q x y z : Sl} {l : List S70} {h r : List Int} {R : List (List Int)}
theorem Qk.below (s : Qk w a b q l) (hb : Below w.heap.size w w1) : Qk w1 a b q l := Kd.R_below s hb
theorem Qk.kp (s : Qk w a' b' q l) (k : Kp w w1 a b) (ha : b ≤ a' ∨ b' ≤ a) : Qk w1 a' b' q l := Kd.R_mono (Kd.R_move (Kd.R_bound s) (fun i hi => k.kept.2 i hi.2.2.1 (fun hs => by have := hi.1; have := hi.2.1; omega))) (fun _ hk => hk.1)
theorem Qk.wide (s : Qk w a b q l) (ha : a' ≤ a) (hb : b ≤ b') : Qk w a' b' q l := Kd.R_lower (Kd.R_mono s (fun _ hk => Nat.lt_of_lt_of_le hk hb)) ha
theorem Sk.wide (s : Sk w a b x y z h r R) (ha : a' ≤ a) (hb : b ≤ b') : Sk w a' b' x y z h r R := ⟨Kd.R_lower (Kd.R_mono s.1 (fun _ hk => Nat.lt_of_lt_of_le hk hb)) ha, Kd.R_lower (Kd.R_mono s.2.1 (fun _ hk => ⟨Nat.lt_of_lt_of_le hk.1 hb, hk.2⟩)) ha, Kd.S_lower (Kd.S_mono s.2.2 (fun _ hk => ⟨Nat.lt_of_lt_of_le hk.1 hb, hk.2⟩)) ha⟩
theorem Rk.wide (s : Rk w a b x y z h r R) (ha : a' ≤ a) (hb : b ≤ b') : Rk w a' b' x y z h r R := ⟨Kd.R_lower (Kd.R_mono s.1 (fun _ hk => Nat.lt_of_lt_of_le hk hb)) ha, Kd.R_lower (Kd.R_mono s.2.1 (fun _ hk => Nat.lt_of_lt_of_le hk hb)) ha, Kd.N_lower (Kd.N_mono s.2.2 (fun _ hk => ⟨by omega, by omega⟩)) ha⟩
end
structure EaI (w W : World) (A B : Array Value) : Prop where
  a : Bx W w.heap.size 34 A
  b : Bx W (w.heap.size + 1) 34 B
  o : Bx W (w.heap.size + 1 + 1) 34 #[.int .i64 0, .int .i64 0, .slice none 0 0, .int .i64 0, .int .i64 0, .int .i64 0, .int .i64 0, .slice none 0 0, .slice none 0 0, .slice none 0 0]
  l : Below w.heap.size w W
  n : w.heap.size + 3 ≤ W.heap.size
theorem EaI.below {w W W1 : World} {A B : Array Value} (m : EaI w W A B) (hb : Below W.heap.size W W1) : EaI w W1 A B := ⟨m.a.below hb, m.b.below hb, m.o.below hb, below_step m.l hb, Nat.le_trans m.n hb.size⟩
theorem ea_in (w : World) (A B : Array Value) : EaI w (((w.alloc (.cells A 34)).alloc (.cells B 34)).alloc (.cells #[.int .i64 0, .int .i64 0, .slice none 0 0, .int .i64 0, .int .i64 0, .int .i64 0, .int .i64 0, .slice none 0 0, .slice none 0 0, .slice none 0 0] 34)) A B := by
  have s1 : (w.alloc (.cells A 34)).heap.size = w.heap.size + 1 := by simp
  have s2 : ((w.alloc (.cells A 34)).alloc (.cells B 34)).heap.size = w.heap.size + 1 + 1 := by simp
  have b2 := Bx.new (w.alloc (.cells A 34)) 34 B
  have b3 := Bx.new ((w.alloc (.cells A 34)).alloc (.cells B 34)) 34 #[.int .i64 0, .int .i64 0, .slice none 0 0, .int .i64 0, .int .i64 0, .int .i64 0, .int .i64 0, .slice none 0 0, .slice none 0 0, .slice none 0 0]
  rw [s1] at b2
  rw [s2] at b3
  exact ⟨(Bx.new w 34 A).below (below_alloc (below_alloc (Below.refl _ _) _) _), b2.below (below_alloc (Below.refl _ _) _), b3, below_alloc (below_alloc (below_alloc (Below.refl _ _) _) _) _, by simp⟩
theorem EaI.endEk {w W W' : World} {A B : Array Value} {a b : Nat} {q x y z : Sl} {l : List S70} {h r : List Int} {R : List (List Int)} (m : EaI w W A B) (k : Kp W W' (w.heap.size + 1 + 1) (w.heap.size + 1 + 1 + 1)) (s : Ek W a b q x y z l h r R) (ha : w.heap.size + 3 ≤ a) (hab : a ≤ b) (hb : b ≤ W.heap.size) : Ek W' a b q x y z l h r R ∧ Made w W' a b ∧ Below w.heap.size w W' :=
  ⟨s.kp k (.inl (by omega)), ⟨by omega, hab, Nat.le_trans hb k.kept.1⟩, below_kp m.l k (by omega) m.l.size⟩
theorem EaI.zeroEk {w W W' : World} {A B : Array Value} (m : EaI w W A B) (k : Kp W W' (w.heap.size + 1 + 1) (w.heap.size + 1 + 1 + 1)) : ∃ (q1 x1 y1 z1 : Sl) (a b : Nat), Ending.returned (.tuple #[.agg #[.int .i64 0, .int .i64 0, .slice none 0 0, .int .i64 0, .int .i64 0, .int .i64 0, .int .i64 0, .slice none 0 0, .slice none 0 0, .slice none 0 0], .bool false]) = .returned (.tuple #[.agg #[.int .i64 0, .int .i64 0, .slice q1.A q1.n q1.c, .int .i64 0, .int .i64 0, .int .i64 0, .int .i64 0, .slice x1.A x1.n x1.c, .slice y1.A y1.n y1.c, .slice z1.A z1.n z1.c], .bool false]) ∧ Ek W' a b q1 x1 y1 z1 [] [] [] [] ∧ Made w W' a b ∧ Below w.heap.size w W' :=
  ⟨⟨none, 0, 0⟩, ⟨none, 0, 0⟩, ⟨none, 0, 0⟩, ⟨none, 0, 0⟩, w.heap.size + 3, w.heap.size + 3, rfl, m.endEk k ⟨Kd.R_nil _ _ _ _ _, Sk.nil _ _ _⟩ (Nat.le_refl _) (Nat.le_refl _) m.n⟩
theorem EaI.endEr {w W W' : World} {A B : Array Value} {a b : Nat} {q x y z : Sl} {l : List S70} {h r : List Int} {R : List (List Int)} (m : EaI w W A B) (k : Kp W W' (w.heap.size + 1 + 1) (w.heap.size + 1 + 1 + 1)) (s : Er W a b q x y z l h r R) (ha : w.heap.size + 3 ≤ a) (hab : a ≤ b) (hb : b ≤ W.heap.size) : Er W' a b q x y z l h r R ∧ Made w W' a b ∧ Below w.heap.size w W' :=
  ⟨s.kp k (.inl (by omega)), ⟨by omega, hab, Nat.le_trans hb k.kept.1⟩, below_kp m.l k (by omega) m.l.size⟩
theorem EaI.zeroEr {w W W' : World} {A B : Array Value} (m : EaI w W A B) (k : Kp W W' (w.heap.size + 1 + 1) (w.heap.size + 1 + 1 + 1)) : ∃ (q1 x1 y1 z1 : Sl) (a b : Nat), Ending.returned (.tuple #[.agg #[.int .i64 0, .int .i64 0, .slice none 0 0, .int .i64 0, .int .i64 0, .int .i64 0, .int .i64 0, .slice none 0 0, .slice none 0 0, .slice none 0 0], .bool false]) = .returned (.tuple #[.agg #[.int .i64 0, .int .i64 0, .slice q1.A q1.n q1.c, .int .i64 0, .int .i64 0, .int .i64 0, .int .i64 0, .slice x1.A x1.n x1.c, .slice y1.A y1.n y1.c, .slice z1.A z1.n z1.c], .bool false]) ∧ Er W' a b q1 x1 y1 z1 [] [] [] [] ∧ Made w W' a b ∧ Below w.heap.size w W' :=
  ⟨⟨none, 0, 0⟩, ⟨none, 0, 0⟩, ⟨none, 0, 0⟩, ⟨none, 0, 0⟩, w.heap.size + 3, w.heap.size + 3, rfl, m.endEr k ⟨Kd.R_nil _ _ _ _ _, (Sk.nil _ _ _).rk⟩ (Nat.le_refl _) (Nat.le_refl _) m.n⟩
theorem implOk_callD (k : Nat) {w : World} {q x y z : Sl} {l : List S70} {h r : List Int} {R : List (List Int)} (ke wi c s lo hi : Int) (t : Bool) (u : Ed w q x y z l h r R) (he : impl_EntryOk.f k ke wi l c s lo hi h r R = some t) :
    Calls Try.prog 14 #[.agg #[.int .i64 ke, .int .i64 wi, .slice q.A q.n q.c, .int .i64 c, .int .i64 s, .int .i64 lo, .int .i64 hi, .slice x.A x.n x.c, .slice y.A y.n y.c, .slice z.A z.n z.c]] w fun e w' => e = .returned (.bool t) ∧ Below w.heap.size w w' := by
  rw [u.q.e, u.s.e4, u.s.e5, u.s.e6]
  exact impl_EntryOk.calls k ke wi _ _ l c s lo hi _ _ h _ _ r _ _ R t w u.q.C u.q.le u.s.C4 u.s.l4 u.s.C5 u.s.l5 u.s.C6 u.s.l6 he
theorem specOk_callD (k : Nat) {w : World} {q x y z : Sl} {l : List S70} {h r : List Int} {R : List (List Int)} (ke wi c s lo hi : Int) (t : Bool) (u : Ed w q x y z l h r R) (he : spec_EntryOk.f k ke wi l c s lo hi h r R = some t) :
    Calls Try.prog 61 #[.agg #[.int .i64 ke, .int .i64 wi, .slice q.A q.n q.c, .int .i64 c, .int .i64 s, .int .i64 lo, .int .i64 hi, .slice x.A x.n x.c, .slice y.A y.n y.c, .slice z.A z.n z.c]] w fun e w' => e = .returned (.bool t) ∧ Below w.heap.size w w' := by
  rw [u.q.e, u.s.e4, u.s.e5, u.s.e6]
  exact spec_EntryOk.calls k ke wi _ _ l c s lo hi _ _ h _ _ r _ _ R t w u.q.C u.q.le u.s.C4 u.s.l4 u.s.C5 u.s.l5 u.s.C6 u.s.l6 he
theorem implApart_callD (k : Nat) {w : World} {q q' : Sl} {l l' : List S70} (t : Bool) (u : Qd w q l) (u' : Qd w q' l') (he : impl_SetApart.f k l l' = some t) :
    Calls Try.prog 58 #[.slice q.A q.n q.c, .slice q'.A q'.n q'.c] w fun e w' => e = .returned (.bool t) ∧ Below w.heap.size w w' := by
  rw [u.e, u'.e]
  exact impl_SetApart.calls k _ _ l _ _ l' t w u.C u.le u'.C u'.le he
theorem specApart_callD (k : Nat) {w : World} {q q' : Sl} {l l' : List S70} (t : Bool) (u : Qd w q l) (u' : Qd w q' l') (he : spec_SetApart.f k l l' = some t) :
    Calls Try.prog 62 #[.slice q.A q.n q.c, .slice q'.A q'.n q'.c] w fun e w' => e = .returned (.bool t) ∧ Below w.heap.size w w' := by
  rw [u.e, u'.e]
  refine (spec_SetApart.calls k _ _ l _ _ l' t w u.C u.le u'.C u'.le he).mono ?_
  rintro e w' ⟨rfl, nd, rfl⟩
  exact ⟨rfl, pw_below_drewN (Below.refl _ _) _⟩
theorem implJoin_callD (k : Nat) {w : World} {q q' : Sl} {l l' l1 : List S70} (t : Bool) (u : Qd w q l) (u' : Qd w q' l') (he : impl_SetJoin.f k l l' = some (l1, t)) :
    Calls Try.prog 59 #[.slice q.A q.n q.c, .slice q'.A q'.n q'.c] w fun e w' => ∃ (v : Sl) (a b : Nat), e = .returned (.tuple #[.slice v.A v.n v.c, .bool t]) ∧ Qk w' a b v l1 ∧ Made w w' a b ∧ Below w.heap.size w w' := by
  rw [u.e, u'.e]
  refine (impl_SetJoin.calls k _ _ l _ _ l' l1 t w u.C u.le u'.C u'.le he).mono ?_
  rintro e w' ⟨v, rfl, hR, hb⟩
  obtain ⟨A1, c1, rfl⟩ := Kd.R_slice hR
  exact ⟨⟨A1, _, c1⟩, w.heap.size, w'.heap.size, rfl, Kd.R_mono (Kd.R_bound hR) (fun _ hk => hk.2.2.1), ⟨Nat.le_refl _, hb.size, Nat.le_refl _⟩, hb⟩
theorem l5_callD (k : Nat) {w : World} {q q' : Sl} {l l' l1 : List S70} (u : Qd w q l) (u' : Qd w q' l') (he : spec_l5Join.f k l l' = some l1) :
    Calls Try.prog 93 #[.slice q.A q.n q.c, .slice q'.A q'.n q'.c] w fun e w' => ∃ (v : Sl) (a b : Nat), e = .returned (.slice v.A v.n v.c) ∧ Qk w' a b v l1 ∧ Made w w' a b ∧ Below w.heap.size w w' := by
  rw [u.e, u'.e]
  refine (spec_l5Join.calls k _ _ l _ _ l' l1 w u.C u.le u'.C u'.le he).mono ?_
  rintro e w' ⟨v, rfl, hR, hb⟩
  obtain ⟨A1, c1, rfl⟩ := Kd.R_slice hR
  exact ⟨⟨A1, _, c1⟩, w.heap.size, w'.heap.size, rfl, Kd.R_mono (Kd.R_bound hR) (fun _ hk => hk.2.2.1), ⟨Nat.le_refl _, hb.size, Nat.le_refl _⟩, hb⟩
theorem l3_callD (k : Nat) {w : World} {x y z x' y' z' : Sl} {h r h' r' : List Int} {R R' : List (List Int)} (c s lo hi c' s' lo' hi' c1 s1 lo1 hi1 : Int) (h1 r1 : List Int) (R1 : List (List Int)) (u : Rd w x y z h r R) (u' : Rd w x' y' z' h' r' R') (he : spec_l3Merge.f k c s lo hi h r R c' s' lo' hi' h' r' R' = some (c1, s1, lo1, hi1, h1, r1, R1)) :
    Calls Try.prog 94 #[.agg #[.int .i64 c, .int .i64 s, .int .i64 lo, .int .i64 hi, .slice x.A x.n x.c, .slice y.A y.n y.c, .slice z.A z.n z.c], .agg #[.int .i64 c', .int .i64 s', .int .i64 lo', .int .i64 hi', .slice x'.A x'.n x'.c, .slice y'.A y'.n y'.c, .slice z'.A z'.n z'.c]] w fun e w' => ∃ (x1 y1 z1 : Sl) (a b : Nat), e = .returned (.agg #[.int .i64 c1, .int .i64 s1, .int .i64 lo1, .int .i64 hi1, .slice x1.A x1.n x1.c, .slice y1.A y1.n y1.c, .slice z1.A z1.n z1.c]) ∧ Rk w' a b x1 y1 z1 h1 r1 R1 ∧ Made w w' a b ∧ Below w.heap.size w w' := by
  rw [u.e4, u.e5, u.e6, u'.e4, u'.e5, u'.e6]
  refine (spec_l3Merge.calls k c s lo hi _ _ h _ _ r _ _ R c' s' lo' hi' _ _ h' _ _ r' _ _ R' c1 s1 lo1 hi1 h1 r1 R1 w u.C4 u.l4 u.C5 u.l5 u.C6 u.l6 u'.C4 u'.l4 u'.C5 u'.l5 u'.C6 u'.l6 he).mono ?_
  rintro e w' ⟨v4, v5, v6, rfl, h4, h5, h6, hb⟩
  obtain ⟨x1, y1, z1, rfl, rfl, rfl, hs⟩ := Rk.of h4 h5 h6 (fun _ hk => hk.1)
  exact ⟨x1, y1, z1, _, _, rfl, hs, ⟨Nat.le_refl _, hb.size, Nat.le_refl _⟩, hb⟩
theorem implM_callD (k : Nat) {w : World} {x y z x' y' z' : Sl} {h r h' r' : List Int} {R R' : List (List Int)} (c s lo hi c' s' lo' hi' c1 s1 lo1 hi1 : Int) (h1 r1 : List Int) (R1 : List (List Int)) (t : Bool) (u : Rd w x y z h r R) (u' : Rd w x' y' z' h' r' R') (he : impl_Merge.f k c s lo hi h r R c' s' lo' hi' h' r' R' = some (c1, s1, lo1, hi1, h1, r1, R1, t)) :
    Calls Try.prog 60 #[.agg #[.int .i64 c, .int .i64 s, .int .i64 lo, .int .i64 hi, .slice x.A x.n x.c, .slice y.A y.n y.c, .slice z.A z.n z.c], .agg #[.int .i64 c', .int .i64 s', .int .i64 lo', .int .i64 hi', .slice x'.A x'.n x'.c, .slice y'.A y'.n y'.c, .slice z'.A z'.n z'.c]] w fun e w' => ∃ (x1 y1 z1 : Sl) (a b : Nat), e = .returned (.tuple #[.agg #[.int .i64 c1, .int .i64 s1, .int .i64 lo1, .int .i64 hi1, .slice x1.A x1.n x1.c, .slice y1.A y1.n y1.c, .slice z1.A z1.n z1.c], .bool t]) ∧ Sk w' a b x1 y1 z1 h1 r1 R1 ∧ Made w w' a b ∧ Below w.heap.size w w' := by
  rw [u.e4, u.e5, u.e6, u'.e4, u'.e5, u'.e6]
  refine (impl_Merge.calls k c s lo hi _ _ h _ _ r _ _ R c' s' lo' hi' _ _ h' _ _ r' _ _ R' c1 s1 lo1 hi1 h1 r1 R1 t w u.C4 u.l4 u.C5 u.l5 u.C6 u.l6 u'.C4 u'.l4 u'.C5 u'.l5 u'.C6 u'.l6 he).mono ?_
  rintro e w' ⟨v4, v5, v6, rfl, h4, h5, h6, hb⟩
  obtain ⟨x1, y1, z1, rfl, rfl, rfl, hs⟩ := Sk.of h4 h5 h6 (fun _ hk => hk) (fun _ hk => hk)
  exact ⟨x1, y1, z1, _, _, rfl, hs, ⟨Nat.le_refl _, hb.size, Nat.le_refl _⟩, hb⟩
set_option maxHeartbeats 16000000 in
set_option maxRecDepth 100000 in
theorem impl_EntryAdd.w1 (k : Nat) {w : World} {q x y z q' x' y' z' : Sl} {l l' : List S70} {h r h' r' : List Int} {R R' : List (List Int)} (ke wi c s lo hi ke' wi' c' s' lo' hi' : Int) (U : Aside0 (Ed w q x y z l h r R)) (U' : Aside0 (Ed w q' x' y' z' l' h' r' R')) (K1 : Aside0 (impl_EntryOk.f k ke wi l c s lo hi h r R = some false)) :
    Calls Try.prog 27 #[.agg #[.int .i64 ke, .int .i64 wi, .slice q.A q.n q.c, .int .i64 c, .int .i64 s, .int .i64 lo, .int .i64 hi, .slice x.A x.n x.c, .slice y.A y.n y.c, .slice z.A z.n z.c], .agg #[.int .i64 ke', .int .i64 wi', .slice q'.A q'.n q'.c, .int .i64 c', .int .i64 s', .int .i64 lo', .int .i64 hi', .slice x'.A x'.n x'.c, .slice y'.A y'.n y'.c, .slice z'.A z'.n z'.c]] w (fun e w' => ∃ (q1 x1 y1 z1 : Sl) (a b : Nat), e = .returned (.tuple #[.agg #[.int .i64 0, .int .i64 0, .slice q1.A q1.n q1.c, .int .i64 0, .int .i64 0, .int .i64 0, .int .i64 0, .slice x1.A x1.n x1.c, .slice y1.A y1.n y1.c, .slice z1.A z1.n z1.c], .bool false]) ∧ Ek w' a b q1 x1 y1 z1 [] [] [] [] ∧ Made w w' a b ∧ Below w.heap.size w w') := by
  go_enter Try.func27, Try.ntmps27
  have M0 := Aside0.mk (ea_in w #[.int .i64 ke, .int .i64 wi, .slice q.A q.n q.c, .int .i64 c, .int .i64 s, .int .i64 lo, .int .i64 hi, .slice x.A x.n x.c, .slice y.A y.n y.c, .slice z.A z.n z.c] #[.int .i64 ke', .int .i64 wi', .slice q'.A q'.n q'.c, .int .i64 c', .int .i64 s', .int .i64 lo', .int .i64 hi', .slice x'.A x'.n x'.c, .slice y'.A y'.n y'.c, .slice z'.A z'.n z'.c])
  go_wp2_with fail
  refine (implOk_callD k ke wi c s lo hi false (U.out.below M0.out.l) K1.out).mono ?_
  rintro e w1 ⟨rfl, hb⟩
  have M1 := Aside0.mk (M0.out.below hb)
  obtain ⟨o0, o1, o2, o3, o4, o5, o6, o7, o8, o9⟩ := M1.out.o.cells10
  have fo := M1.out.o.fz
  go_wp2
  refine bodyPost_ret (results_ct rfl _ _ (w.heap.size + 1 + 1) 34 #[.int .i64 0, .int .i64 0, .slice none 0 0, .int .i64 0, .int .i64 0, .int .i64 0, .int .i64 0, .slice none 0 0, .slice none 0 0, .slice none 0 0] (0, 0) _ rfl (M1.out.o.fill10 _ _ _ _ _ _ _ _ _ _ ).1 Try.underlying34 rfl (by kernel_rfl)) rfl ?_
  exact M1.out.zeroEk (M1.out.o.fill10 _ _ _ _ _ _ _ _ _ _ ).2
set_option maxHeartbeats 16000000 in
set_option maxRecDepth 100000 in
theorem impl_EntryAdd.w2 (k : Nat) {w : World} {q x y z q' x' y' z' : Sl} {l l' : List S70} {h r h' r' : List Int} {R R' : List (List Int)} (ke wi c s lo hi ke' wi' c' s' lo' hi' : Int) (U : Aside0 (Ed w q x y z l h r R)) (U' : Aside0 (Ed w q' x' y' z' l' h' r' R')) (K1 : Aside0 (impl_EntryOk.f k ke wi l c s lo hi h r R = some true)) (K2 : Aside0 (impl_EntryOk.f k ke' wi' l' c' s' lo' hi' h' r' R' = some false)) :
    Calls Try.prog 27 #[.agg #[.int .i64 ke, .int .i64 wi, .slice q.A q.n q.c, .int .i64 c, .int .i64 s, .int .i64 lo, .int .i64 hi, .slice x.A x.n x.c, .slice y.A y.n y.c, .slice z.A z.n z.c], .agg #[.int .i64 ke', .int .i64 wi', .slice q'.A q'.n q'.c, .int .i64 c', .int .i64 s', .int .i64 lo', .int .i64 hi', .slice x'.A x'.n x'.c, .slice y'.A y'.n y'.c, .slice z'.A z'.n z'.c]] w (fun e w' => ∃ (q1 x1 y1 z1 : Sl) (a b : Nat), e = .returned (.tuple #[.agg #[.int .i64 0, .int .i64 0, .slice q1.A q1.n q1.c, .int .i64 0, .int .i64 0, .int .i64 0, .int .i64 0, .slice x1.A x1.n x1.c, .slice y1.A y1.n y1.c, .slice z1.A z1.n z1.c], .bool false]) ∧ Ek w' a b q1 x1 y1 z1 [] [] [] [] ∧ Made w w' a b ∧ Below w.heap.size w w') := by
  go_enter Try.func27, Try.ntmps27
  have M0 := Aside0.mk (ea_in w #[.int .i64 ke, .int .i64 wi, .slice q.A q.n q.c, .int .i64 c, .int .i64 s, .int .i64 lo, .int .i64 hi, .slice x.A x.n x.c, .slice y.A y.n y.c, .slice z.A z.n z.c] #[.int .i64 ke', .int .i64 wi', .slice q'.A q'.n q'.c, .int .i64 c', .int .i64 s', .int .i64 lo', .int .i64 hi', .slice x'.A x'.n x'.c, .slice y'.A y'.n y'.c, .slice z'.A z'.n z'.c])
  go_wp2_with fail
  refine (implOk_callD k ke wi c s lo hi true (U.out.below M0.out.l) K1.out).mono ?_
  rintro e w1 ⟨rfl, hb⟩
  have M1 := Aside0.mk (M0.out.below hb)
  obtain ⟨y0, y1, y2, y3, y4, y5, y6, y7, y8, y9⟩ := M1.out.b.cells10
  go_wp2_with fail
  clear y0 y1 y2 y3 y4 y5 y6 y7 y8 y9
  refine (implOk_callD k ke' wi' c' s' lo' hi' false (U'.out.below M1.out.l) K2.out).mono ?_
  rintro e w2 ⟨rfl, hb⟩
  have M2 := Aside0.mk (M1.out.below hb)
  obtain ⟨o0, o1, o2, o3, o4, o5, o6, o7, o8, o9⟩ := M2.out.o.cells10
  have fo := M2.out.o.fz
  go_wp2
  refine bodyPost_ret (results_ct rfl _ _ (w.heap.size + 1 + 1) 34 #[.int .i64 0, .int .i64 0, .slice none 0 0, .int .i64 0, .int .i64 0, .int .i64 0, .int .i64 0, .slice none 0 0, .slice none 0 0, .slice none 0 0] (0, 0) _ rfl (M2.out.o.fill10 _ _ _ _ _ _ _ _ _ _ ).1 Try.underlying34 rfl (by kernel_rfl)) rfl ?_
  exact M2.out.zeroEk (M2.out.o.fill10 _ _ _ _ _ _ _ _ _ _ ).2
set_option maxHeartbeats 16000000 in
set_option maxRecDepth 100000 in
theorem impl_EntryAdd.w3 (k : Nat) {w : World} {q x y z q' x' y' z' : Sl} {l l' : List S70} {h r h' r' : List Int} {R R' : List (List Int)} (ke wi c s lo hi ke' wi' c' s' lo' hi' : Int) (U : Aside0 (Ed w q x y z l h r R)) (U' : Aside0 (Ed w q' x' y' z' l' h' r' R')) (K1 : Aside0 (impl_EntryOk.f k ke wi l c s lo hi h r R = some true)) (K2 : Aside0 (impl_EntryOk.f k ke' wi' l' c' s' lo' hi' h' r' R' = some true)) (HN : Aside0 (¬ ke = ke')) :
    Calls Try.prog 27 #[.agg #[.int .i64 ke, .int .i64 wi, .slice q.A q.n q.c, .int .i64 c, .int .i64 s, .int .i64 lo, .int .i64 hi, .slice x.A x.n x.c, .slice y.A y.n y.c, .slice z.A z.n z.c], .agg #[.int .i64 ke', .int .i64 wi', .slice q'.A q'.n q'.c, .int .i64 c', .int .i64 s', .int .i64 lo', .int .i64 hi', .slice x'.A x'.n x'.c, .slice y'.A y'.n y'.c, .slice z'.A z'.n z'.c]] w (fun e w' => ∃ (q1 x1 y1 z1 : Sl) (a b : Nat), e = .returned (.tuple #[.agg #[.int .i64 0, .int .i64 0, .slice q1.A q1.n q1.c, .int .i64 0, .int .i64 0, .int .i64 0, .int .i64 0, .slice x1.A x1.n x1.c, .slice y1.A y1.n y1.c, .slice z1.A z1.n z1.c], .bool false]) ∧ Ek w' a b q1 x1 y1 z1 [] [] [] [] ∧ Made w w' a b ∧ Below w.heap.size w w') := by
  go_enter Try.func27, Try.ntmps27
  have M0 := Aside0.mk (ea_in w #[.int .i64 ke, .int .i64 wi, .slice q.A q.n q.c, .int .i64 c, .int .i64 s, .int .i64 lo, .int .i64 hi, .slice x.A x.n x.c, .slice y.A y.n y.c, .slice z.A z.n z.c] #[.int .i64 ke', .int .i64 wi', .slice q'.A q'.n q'.c, .int .i64 c', .int .i64 s', .int .i64 lo', .int .i64 hi', .slice x'.A x'.n x'.c, .slice y'.A y'.n y'.c, .slice z'.A z'.n z'.c])
  go_wp2_with fail
  refine (implOk_callD k ke wi c s lo hi true (U.out.below M0.out.l) K1.out).mono ?_
  rintro e w1 ⟨rfl, hb⟩
  have M1 := Aside0.mk (M0.out.below hb)
  obtain ⟨y0, y1, y2, y3, y4, y5, y6, y7, y8, y9⟩ := M1.out.b.cells10
  go_wp2_with fail
  clear y0 y1 y2 y3 y4 y5 y6 y7 y8 y9
  refine (implOk_callD k ke' wi' c' s' lo' hi' true (U'.out.below M1.out.l) K2.out).mono ?_
  rintro e w2 ⟨rfl, hb⟩
  have M2 := Aside0.mk (M1.out.below hb)
  obtain ⟨x0, x1, x2, x3, x4, x5, x6, x7, x8, x9⟩ := M2.out.a.cells10
  obtain ⟨y0, y1, y2, y3, y4, y5, y6, y7, y8, y9⟩ := M2.out.b.cells10
  have hne := HN.out
  obtain ⟨o0, o1, o2, o3, o4, o5, o6, o7, o8, o9⟩ := M2.out.o.cells10
  have fo := M2.out.o.fz
  go_wp2
  refine bodyPost_ret (results_ct rfl _ _ (w.heap.size + 1 + 1) 34 #[.int .i64 0, .int .i64 0, .slice none 0 0, .int .i64 0, .int .i64 0, .int .i64 0, .int .i64 0, .slice none 0 0, .slice none 0 0, .slice none 0 0] (0, 0) _ rfl (M2.out.o.fill10 _ _ _ _ _ _ _ _ _ _ ).1 Try.underlying34 rfl (by kernel_rfl)) rfl ?_
  exact M2.out.zeroEk (M2.out.o.fill10 _ _ _ _ _ _ _ _ _ _ ).2
set_option maxHeartbeats 16000000 in
set_option maxRecDepth 100000 in
theorem impl_EntryAdd.w4 (k : Nat) {w : World} {q x y z q' x' y' z' : Sl} {l l' : List S70} {h r h' r' : List Int} {R R' : List (List Int)} (ke wi c s lo hi wi' c' s' lo' hi' : Int) (U : Aside0 (Ed w q x y z l h r R)) (U' : Aside0 (Ed w q' x' y' z' l' h' r' R')) (K1 : Aside0 (impl_EntryOk.f k ke wi l c s lo hi h r R = some true)) (K2 : Aside0 (impl_EntryOk.f k ke wi' l' c' s' lo' hi' h' r' R' = some true)) (HN : Aside0 (¬ wi = wi')) :
    Calls Try.prog 27 #[.agg #[.int .i64 ke, .int .i64 wi, .slice q.A q.n q.c, .int .i64 c, .int .i64 s, .int .i64 lo, .int .i64 hi, .slice x.A x.n x.c, .slice y.A y.n y.c, .slice z.A z.n z.c], .agg #[.int .i64 ke, .int .i64 wi', .slice q'.A q'.n q'.c, .int .i64 c', .int .i64 s', .int .i64 lo', .int .i64 hi', .slice x'.A x'.n x'.c, .slice y'.A y'.n y'.c, .slice z'.A z'.n z'.c]] w (fun e w' => ∃ (q1 x1 y1 z1 : Sl) (a b : Nat), e = .returned (.tuple #[.agg #[.int .i64 0, .int .i64 0, .slice q1.A q1.n q1.c, .int .i64 0, .int .i64 0, .int .i64 0, .int .i64 0, .slice x1.A x1.n x1.c, .slice y1.A y1.n y1.c, .slice z1.A z1.n z1.c], .bool false]) ∧ Ek w' a b q1 x1 y1 z1 [] [] [] [] ∧ Made w w' a b ∧ Below w.heap.size w w') := by
  go_enter Try.func27, Try.ntmps27
  have M0 := Aside0.mk (ea_in w #[.int .i64 ke, .int .i64 wi, .slice q.A q.n q.c, .int .i64 c, .int .i64 s, .int .i64 lo, .int .i64 hi, .slice x.A x.n x.c, .slice y.A y.n y.c, .slice z.A z.n z.c] #[.int .i64 ke, .int .i64 wi', .slice q'.A q'.n q'.c, .int .i64 c', .int .i64 s', .int .i64 lo', .int .i64 hi', .slice x'.A x'.n x'.c, .slice y'.A y'.n y'.c, .slice z'.A z'.n z'.c])
  go_wp2_with fail
  refine (implOk_callD k ke wi c s lo hi true (U.out.below M0.out.l) K1.out).mono ?_
  rintro e w1 ⟨rfl, hb⟩
  have M1 := Aside0.mk (M0.out.below hb)
  obtain ⟨y0, y1, y2, y3, y4, y5, y6, y7, y8, y9⟩ := M1.out.b.cells10
  go_wp2_with fail
  clear y0 y1 y2 y3 y4 y5 y6 y7 y8 y9
  refine (implOk_callD k ke wi' c' s' lo' hi' true (U'.out.below M1.out.l) K2.out).mono ?_
  rintro e w2 ⟨rfl, hb⟩
  have M2 := Aside0.mk (M1.out.below hb)
  obtain ⟨x0, x1, x2, x3, x4, x5, x6, x7, x8, x9⟩ := M2.out.a.cells10
  obtain ⟨y0, y1, y2, y3, y4, y5, y6, y7, y8, y9⟩ := M2.out.b.cells10
  have hne := HN.out
  obtain ⟨o0, o1, o2, o3, o4, o5, o6, o7, o8, o9⟩ := M2.out.o.cells10
  have fo := M2.out.o.fz
  go_wp2
  refine bodyPost_ret (results_ct rfl _ _ (w.heap.size + 1 + 1) 34 #[.int .i64 0, .int .i64 0, .slice none 0 0, .int .i64 0, .int .i64 0, .int .i64 0, .int .i64 0, .slice none 0 0, .slice none 0 0, .slice none 0 0] (0, 0) _ rfl (M2.out.o.fill10 _ _ _ _ _ _ _ _ _ _ ).1 Try.underlying34 rfl (by kernel_rfl)) rfl ?_
  exact M2.out.zeroEk (M2.out.o.fill10 _ _ _ _ _ _ _ _ _ _ ).2
set_option maxHeartbeats 16000000 in
set_option maxRecDepth 100000 in
theorem impl_EntryAdd.w5 (k : Nat) {w : World} {q x y z q' x' y' z' : Sl} {l l' : List S70} {h r h' r' : List Int} {R R' : List (List Int)} (ke wi c s lo hi c' s' lo' hi' : Int) (U : Aside0 (Ed w q x y z l h r R)) (U' : Aside0 (Ed w q' x' y' z' l' h' r' R')) (K1 : Aside0 (impl_EntryOk.f k ke wi l c s lo hi h r R = some true)) (K2 : Aside0 (impl_EntryOk.f k ke wi l' c' s' lo' hi' h' r' R' = some true)) (K3 : Aside0 (impl_SetApart.f k l l' = some false)) :
    Calls Try.prog 27 #[.agg #[.int .i64 ke, .int .i64 wi, .slice q.A q.n q.c, .int .i64 c, .int .i64 s, .int .i64 lo, .int .i64 hi, .slice x.A x.n x.c, .slice y.A y.n y.c, .slice z.A z.n z.c], .agg #[.int .i64 ke, .int .i64 wi, .slice q'.A q'.n q'.c, .int .i64 c', .int .i64 s', .int .i64 lo', .int .i64 hi', .slice x'.A x'.n x'.c, .slice y'.A y'.n y'.c, .slice z'.A z'.n z'.c]] w (fun e w' => ∃ (q1 x1 y1 z1 : Sl) (a b : Nat), e = .returned (.tuple #[.agg #[.int .i64 0, .int .i64 0, .slice q1.A q1.n q1.c, .int .i64 0, .int .i64 0, .int .i64 0, .int .i64 0, .slice x1.A x1.n x1.c, .slice y1.A y1.n y1.c, .slice z1.A z1.n z1.c], .bool false]) ∧ Ek w' a b q1 x1 y1 z1 [] [] [] [] ∧ Made w w' a b ∧ Below w.heap.size w w') := by
  go_enter Try.func27, Try.ntmps27
  have M0 := Aside0.mk (ea_in w #[.int .i64 ke, .int .i64 wi, .slice q.A q.n q.c, .int .i64 c, .int .i64 s, .int .i64 lo, .int .i64 hi, .slice x.A x.n x.c, .slice y.A y.n y.c, .slice z.A z.n z.c] #[.int .i64 ke, .int .i64 wi, .slice q'.A q'.n q'.c, .int .i64 c', .int .i64 s', .int .i64 lo', .int .i64 hi', .slice x'.A x'.n x'.c, .slice y'.A y'.n y'.c, .slice z'.A z'.n z'.c])
  go_wp2_with fail
  refine (implOk_callD k ke wi c s lo hi true (U.out.below M0.out.l) K1.out).mono ?_
  rintro e w1 ⟨rfl, hb⟩
  have M1 := Aside0.mk (M0.out.below hb)
  obtain ⟨y0, y1, y2, y3, y4, y5, y6, y7, y8, y9⟩ := M1.out.b.cells10
  go_wp2_with fail
  clear y0 y1 y2 y3 y4 y5 y6 y7 y8 y9
  refine (implOk_callD k ke wi c' s' lo' hi' true (U'.out.below M1.out.l) K2.out).mono ?_
  rintro e w2 ⟨rfl, hb⟩
  have M2 := Aside0.mk (M1.out.below hb)
  obtain ⟨x0, x1, x2, x3, x4, x5, x6, x7, x8, x9⟩ := M2.out.a.cells10
  obtain ⟨y0, y1, y2, y3, y4, y5, y6, y7, y8, y9⟩ := M2.out.b.cells10
  go_wp2_with fail
  clear x0 x1 x2 x3 x4 x5 x6 x7 x8 x9 y0 y1 y2 y3 y4 y5 y6 y7 y8 y9
  refine (implApart_callD k false (U.out.below M2.out.l).q (U'.out.below M2.out.l).q K3.out).mono ?_
  rintro e w3 ⟨rfl, hb⟩
  have M3 := Aside0.mk (M2.out.below hb)
  obtain ⟨o0, o1, o2, o3, o4, o5, o6, o7, o8, o9⟩ := M3.out.o.cells10
  have fo := M3.out.o.fz
  go_wp2
  refine bodyPost_ret (results_ct rfl _ _ (w.heap.size + 1 + 1) 34 #[.int .i64 0, .int .i64 0, .slice none 0 0, .int .i64 0, .int .i64 0, .int .i64 0, .int .i64 0, .slice none 0 0, .slice none 0 0, .slice none 0 0] (0, 0) _ rfl (M3.out.o.fill10 _ _ _ _ _ _ _ _ _ _ ).1 Try.underlying34 rfl (by kernel_rfl)) rfl ?_
  exact M3.out.zeroEk (M3.out.o.fill10 _ _ _ _ _ _ _ _ _ _ ).2
set_option maxHeartbeats 16000000 in
set_option maxRecDepth 100000 in
theorem impl_EntryAdd.w6 (k : Nat) {w : World} {q x y z q' x' y' z' : Sl} {l l' : List S70} {h r h' r' : List Int} {R R' : List (List Int)} (ke wi c s lo hi c' s' lo' hi' c1 s1 lo1 hi1 : Int) (l1 : List S70) (h1 r1 : List Int) (R1 : List (List Int)) (t1 t2 : Bool) (U : Aside0 (Ed w q x y z l h r R)) (U' : Aside0 (Ed w q' x' y' z' l' h' r' R')) (K1 : Aside0 (impl_EntryOk.f k ke wi l c s lo hi h r R = some true)) (K2 : Aside0 (impl_EntryOk.f k ke wi l' c' s' lo' hi' h' r' R' = some true)) (K3 : Aside0 (impl_SetApart.f k l l' = some true)) (K4 : Aside0 (impl_SetJoin.f k l l' = some (l1, t1))) (K5 : Aside0 (impl_Merge.f k c s lo hi h r R c' s' lo' hi' h' r' R' = some (c1, s1, lo1, hi1, h1, r1, R1, t2))) :
    Calls Try.prog 27 #[.agg #[.int .i64 ke, .int .i64 wi, .slice q.A q.n q.c, .int .i64 c, .int .i64 s, .int .i64 lo, .int .i64 hi, .slice x.A x.n x.c, .slice y.A y.n y.c, .slice z.A z.n z.c], .agg #[.int .i64 ke, .int .i64 wi, .slice q'.A q'.n q'.c, .int .i64 c', .int .i64 s', .int .i64 lo', .int .i64 hi', .slice x'.A x'.n x'.c, .slice y'.A y'.n y'.c, .slice z'.A z'.n z'.c]] w (fun e w' => ∃ (q1 x1 y1 z1 : Sl) (a b : Nat), e = .returned (.tuple #[.agg #[.int .i64 ke, .int .i64 wi, .slice q1.A q1.n q1.c, .int .i64 c1, .int .i64 s1, .int .i64 lo1, .int .i64 hi1, .slice x1.A x1.n x1.c, .slice y1.A y1.n y1.c, .slice z1.A z1.n z1.c], .bool true]) ∧ Ek w' a b q1 x1 y1 z1 l1 h1 r1 R1 ∧ Made w w' a b ∧ Below w.heap.size w w') := by
  go_enter Try.func27, Try.ntmps27
  have M0 := Aside0.mk (ea_in w #[.int .i64 ke, .int .i64 wi, .slice q.A q.n q.c, .int .i64 c, .int .i64 s, .int .i64 lo, .int .i64 hi, .slice x.A x.n x.c, .slice y.A y.n y.c, .slice z.A z.n z.c] #[.int .i64 ke, .int .i64 wi, .slice q'.A q'.n q'.c, .int .i64 c', .int .i64 s', .int .i64 lo', .int .i64 hi', .slice x'.A x'.n x'.c, .slice y'.A y'.n y'.c, .slice z'.A z'.n z'.c])
  go_wp2_with fail
  refine (implOk_callD k ke wi c s lo hi true (U.out.below M0.out.l) K1.out).mono ?_
  rintro e w1 ⟨rfl, hb⟩
  have M1 := Aside0.mk (M0.out.below hb)
  obtain ⟨y0, y1, y2, y3, y4, y5, y6, y7, y8, y9⟩ := M1.out.b.cells10
  go_wp2_with fail
  clear y0 y1 y2 y3 y4 y5 y6 y7 y8 y9
  refine (implOk_callD k ke wi c' s' lo' hi' true (U'.out.below M1.out.l) K2.out).mono ?_
  rintro e w2 ⟨rfl, hb⟩
  have M2 := Aside0.mk (M1.out.below hb)
  obtain ⟨x0, x1, x2, x3, x4, x5, x6, x7, x8, x9⟩ := M2.out.a.cells10
  obtain ⟨y0, y1, y2, y3, y4, y5, y6, y7, y8, y9⟩ := M2.out.b.cells10
  go_wp2_with fail
  clear x0 x1 x2 x3 x4 x5 x6 x7 x8 x9 y0 y1 y2 y3 y4 y5 y6 y7 y8 y9
  refine (implApart_callD k true (U.out.below M2.out.l).q (U'.out.below M2.out.l).q K3.out).mono ?_
  rintro e w3 ⟨rfl, hb⟩
  have M3 := Aside0.mk (M2.out.below hb)
  obtain ⟨x0, x1, x2, x3, x4, x5, x6, x7, x8, x9⟩ := M3.out.a.cells10
  obtain ⟨y0, y1, y2, y3, y4, y5, y6, y7, y8, y9⟩ := M3.out.b.cells10
  go_wp2_with fail
  clear x0 x1 x2 x3 x4 x5 x6 x7 x8 x9 y0 y1 y2 y3 y4 y5 y6 y7 y8 y9
  refine (implJoin_callD k t1 (U.out.below M3.out.l).q (U'.out.below M3.out.l).q K4.out).mono ?_
  rintro e w4 ⟨qj, aj, bj, rfl, hs, hm, hb⟩
  have M4 := Aside0.mk (M3.out.below hb)
  have J := Aside0.mk hs
  have NJ := Aside0.mk hm
  clear hs hm hb
  obtain ⟨x0, x1, x2, x3, x4, x5, x6, x7, x8, x9⟩ := M4.out.a.cells10
  obtain ⟨y0, y1, y2, y3, y4, y5, y6, y7, y8, y9⟩ := M4.out.b.cells10
  go_wp2_with fail
  clear x0 x1 x2 x3 x4 x5 x6 x7 x8 x9 y0 y1 y2 y3 y4 y5 y6 y7 y8 y9
  refine (implM_callD k c s lo hi c' s' lo' hi' c1 s1 lo1 hi1 h1 r1 R1 t2 (U.out.below M4.out.l).s (U'.out.below M4.out.l).s K5.out).mono ?_
  rintro e w5 ⟨xm, ym, zm, am, bm, rfl, hs, hm, hb⟩
  have M5 := Aside0.mk (M4.out.below hb)
  replace J := Aside0.mk (J.out.below hb)
  have MM := Aside0.mk hs
  have NM := Aside0.mk hm
  clear hs hm hb
  have hb := below_alloc (Below.refl _ w5) (.cells #[.int .i64 c1, .int .i64 s1, .int .i64 lo1, .int .i64 hi1, .slice xm.A xm.n xm.c, .slice ym.A ym.n ym.c, .slice zm.A zm.n zm.c] 27)
  have M6 := Aside0.mk (M5.out.below hb)
  have X8 := Aside0.mk (Bx.new w5 27 #[.int .i64 c1, .int .i64 s1, .int .i64 lo1, .int .i64 hi1, .slice xm.A xm.n xm.c, .slice ym.A ym.n ym.c, .slice zm.A zm.n zm.c])
  replace J := Aside0.mk (J.out.below hb)
  replace MM := Aside0.mk (MM.out.below hb)
  have N5 := Aside0.mk (And.intro M3.out.n (And.intro M5.out.n hb.size))
  clear hb
  obtain ⟨x0, x1, x2, x3, x4, x5, x6, x7, x8, x9⟩ := M6.out.a.cells10
  obtain ⟨o0, o1, o2, o3, o4, o5, o6, o7, o8, o9⟩ := M6.out.o.cells10
  have fo := M6.out.o.fz
  go_wp2
  refine bodyPost_ret (results_ct rfl _ _ (w.heap.size + 1 + 1) 34 #[.int .i64 ke, .int .i64 wi, .slice qj.A qj.n qj.c, .int .i64 c1, .int .i64 s1, .int .i64 lo1, .int .i64 hi1, .slice xm.A xm.n xm.c, .slice ym.A ym.n ym.c, .slice zm.A zm.n zm.c] (0, 0) _ rfl (M6.out.o.fill10 _ _ _ _ _ _ _ _ _ _ ).1 Try.underlying34 rfl (by kernel_rfl)) rfl ?_
  have n1 := NJ.out
  have n2 := NM.out
  have n5 := N5.out
  unfold Made at n1 n2
  exact ⟨qj, xm, ym, zm, aj, bm, rfl, M6.out.endEk (M6.out.o.fill10 _ _ _ _ _ _ _ _ _ _ ).2 ⟨Qk.wide J.out (Nat.le_refl _) (by omega), Sk.wide MM.out (by omega) (Nat.le_refl _)⟩ (by omega) (by omega) (by omega)⟩
set_option maxHeartbeats 16000000 in
set_option maxRecDepth 100000 in
theorem spec_l6Add.walk (k : Nat) {w : World} {q x y z q' x' y' z' : Sl} {l l' : List S70} {h r h' r' : List Int} {R R' : List (List Int)} (ke wi c s lo hi ke' wi' c' s' lo' hi' c1 s1 lo1 hi1 : Int) (u : Ed w q x y z l h r R) (u' : Ed w q' x' y' z' l' h' r' R') (l1 : List S70) (h1 r1 : List Int) (R1 : List (List Int)) (K4 : Aside0 (spec_l5Join.f k l l' = some l1)) (K5 : Aside0 (spec_l3Merge.f k c s lo hi h r R c' s' lo' hi' h' r' R' = some (c1, s1, lo1, hi1, h1, r1, R1))) :
    Calls Try.prog 63 #[.agg #[.int .i64 ke, .int .i64 wi, .slice q.A q.n q.c, .int .i64 c, .int .i64 s, .int .i64 lo, .int .i64 hi, .slice x.A x.n x.c, .slice y.A y.n y.c, .slice z.A z.n z.c], .agg #[.int .i64 ke', .int .i64 wi', .slice q'.A q'.n q'.c, .int .i64 c', .int .i64 s', .int .i64 lo', .int .i64 hi', .slice x'.A x'.n x'.c, .slice y'.A y'.n y'.c, .slice z'.A z'.n z'.c]] w (fun e w' => ∃ (q1 x1 y1 z1 : Sl) (a b : Nat), e = .returned (.agg #[.int .i64 ke, .int .i64 wi, .slice q1.A q1.n q1.c, .int .i64 c1, .int .i64 s1, .int .i64 lo1, .int .i64 hi1, .slice x1.A x1.n x1.c, .slice y1.A y1.n y1.c, .slice z1.A z1.n z1.c]) ∧ Er w' a b q1 x1 y1 z1 l1 h1 r1 R1 ∧ Made w w' a b ∧ Below w.heap.size w w') := by
  have U := Aside0.mk u
  have U' := Aside0.mk u'
  clear u u'
  go_enter Try.func63, Try.ntmps63
  have M0 := Aside0.mk (ea_in w #[.int .i64 ke, .int .i64 wi, .slice q.A q.n q.c, .int .i64 c, .int .i64 s, .int .i64 lo, .int .i64 hi, .slice x.A x.n x.c, .slice y.A y.n y.c, .slice z.A z.n z.c] #[.int .i64 ke', .int .i64 wi', .slice q'.A q'.n q'.c, .int .i64 c', .int .i64 s', .int .i64 lo', .int .i64 hi', .slice x'.A x'.n x'.c, .slice y'.A y'.n y'.c, .slice z'.A z'.n z'.c])
  have LS := Aside0.mk (show ∀ W', Bx W' (w.heap.size) 34 #[.int .i64 ke, .int .i64 wi, .slice q.A q.n q.c, .int .i64 c, .int .i64 s, .int .i64 lo, .int .i64 hi, .slice x.A x.n x.c, .slice y.A y.n y.c, .slice z.A z.n z.c] → Bx W' (w.heap.size + 1) 34 #[.int .i64 ke', .int .i64 wi', .slice q'.A q'.n q'.c, .int .i64 c', .int .i64 s', .int .i64 lo', .int .i64 hi', .slice x'.A x'.n x'.c, .slice y'.A y'.n y'.c, .slice z'.A z'.n z'.c] → (fun w' : World => w'.cell? ⟨w.heap.size, 0, none⟩ = some (.int .i64 ke) ∧ w'.cell? ⟨w.heap.size, 1, none⟩ = some (.int .i64 wi) ∧ w'.cell? ⟨w.heap.size, 2, none⟩ = some (.slice q.A q.n q.c) ∧ w'.cell? ⟨w.heap.size, 3, none⟩ = some (.int .i64 c) ∧ w'.cell? ⟨w.heap.size, 4, none⟩ = some (.int .i64 s) ∧ w'.cell? ⟨w.heap.size, 5, none⟩ = some (.int .i64 lo) ∧ w'.cell? ⟨w.heap.size, 6, none⟩ = some (.int .i64 hi) ∧ w'.cell? ⟨w.heap.size, 7, none⟩ = some (.slice x.A x.n x.c) ∧ w'.cell? ⟨w.heap.size, 8, none⟩ = some (.slice y.A y.n y.c) ∧ w'.cell? ⟨w.heap.size, 9, none⟩ = some (.slice z.A z.n z.c) ∧ w'.cell? ⟨w.heap.size + 1, 0, none⟩ = some (.int .i64 ke') ∧ w'.cell? ⟨w.heap.size + 1, 1, none⟩ = some (.int .i64 wi') ∧ w'.cell? ⟨w.heap.size + 1, 2, none⟩ = some (.slice q'.A q'.n q'.c) ∧ w'.cell? ⟨w.heap.size + 1, 3, none⟩ = some (.int .i64 c') ∧ w'.cell? ⟨w.heap.size + 1, 4, none⟩ = some (.int .i64 s') ∧ w'.cell? ⟨w.heap.size + 1, 5, none⟩ = some (.int .i64 lo') ∧ w'.cell? ⟨w.heap.size + 1, 6, none⟩ = some (.int .i64 hi') ∧ w'.cell? ⟨w.heap.size + 1, 7, none⟩ = some (.slice x'.A x'.n x'.c) ∧ w'.cell? ⟨w.heap.size + 1, 8, none⟩ = some (.slice y'.A y'.n y'.c) ∧ w'.cell? ⟨w.heap.size + 1, 9, none⟩ = some (.slice z'.A z'.n z'.c)) W' from fun W' ba bb => by obtain ⟨x0, x1, x2, x3, x4, x5, x6, x7, x8, x9⟩ := ba.cells10; obtain ⟨y0, y1, y2, y3, y4, y5, y6, y7, y8, y9⟩ := bb.cells10; exact ⟨x0, x1, x2, x3, x4, x5, x6, x7, x8, x9, y0, y1, y2, y3, y4, y5, y6, y7, y8, y9⟩)
  go_wp2_with fail
  have M := Aside0.mk (M0.out.below (below_drew (Below.refl _ _)))
  have MB := Aside0.mk M0.out.n
  obtain ⟨x0, x1, x2, x3, x4, x5, x6, x7, x8, x9⟩ := M0.out.a.cells10
  obtain ⟨y0, y1, y2, y3, y4, y5, y6, y7, y8, y9⟩ := M0.out.b.cells10
  clear M0
  go_region_held3 (fun w' : World => w'.cell? ⟨w.heap.size, 0, none⟩ = some (.int .i64 ke) ∧ w'.cell? ⟨w.heap.size, 1, none⟩ = some (.int .i64 wi) ∧ w'.cell? ⟨w.heap.size, 2, none⟩ = some (.slice q.A q.n q.c) ∧ w'.cell? ⟨w.heap.size, 3, none⟩ = some (.int .i64 c) ∧ w'.cell? ⟨w.heap.size, 4, none⟩ = some (.int .i64 s) ∧ w'.cell? ⟨w.heap.size, 5, none⟩ = some (.int .i64 lo) ∧ w'.cell? ⟨w.heap.size, 6, none⟩ = some (.int .i64 hi) ∧ w'.cell? ⟨w.heap.size, 7, none⟩ = some (.slice x.A x.n x.c) ∧ w'.cell? ⟨w.heap.size, 8, none⟩ = some (.slice y.A y.n y.c) ∧ w'.cell? ⟨w.heap.size, 9, none⟩ = some (.slice z.A z.n z.c) ∧ w'.cell? ⟨w.heap.size + 1, 0, none⟩ = some (.int .i64 ke') ∧ w'.cell? ⟨w.heap.size + 1, 1, none⟩ = some (.int .i64 wi') ∧ w'.cell? ⟨w.heap.size + 1, 2, none⟩ = some (.slice q'.A q'.n q'.c) ∧ w'.cell? ⟨w.heap.size + 1, 3, none⟩ = some (.int .i64 c') ∧ w'.cell? ⟨w.heap.size + 1, 4, none⟩ = some (.int .i64 s') ∧ w'.cell? ⟨w.heap.size + 1, 5, none⟩ = some (.int .i64 lo') ∧ w'.cell? ⟨w.heap.size + 1, 6, none⟩ = some (.int .i64 hi') ∧ w'.cell? ⟨w.heap.size + 1, 7, none⟩ = some (.slice x'.A x'.n x'.c) ∧ w'.cell? ⟨w.heap.size + 1, 8, none⟩ = some (.slice y'.A y'.n y'.c) ∧ w'.cell? ⟨w.heap.size + 1, 9, none⟩ = some (.slice z'.A z'.n z'.c)) (first | with_reducible exact LS.out _ M.out.a M.out.b | with_reducible exact KS.out _ _ _ _ _ _ _ _ _ _ ) (first | (go_at_call 93; (with_reducible refine (l5_callD k (U.out.below M.out.l).q (U'.out.below M.out.l).q K4.out).mono ?_); rintro e wz ⟨qj, aj, bj, rfl, hs, hm, hb⟩; (try (replace MM := Aside0.mk (MM.out.below hb))); have J := Aside0.mk hs; have NJ := Aside0.mk (And.intro M.out.n hm); replace M := Aside0.mk (M.out.below hb); clear hs hm hb; obtain ⟨o0, o1, o2, o3, o4, o5, o6, o7, o8, o9⟩ := M.out.o.cells10; have fo := M.out.o.fz; have KS := Aside0.mk (fun v0_ v1_ v2_ v3_ v4_ v5_ v6_ v7_ v8_ v9_ : Value => LS.out _ (M.out.a.kp (M.out.o.fill10 v0_ v1_ v2_ v3_ v4_ v5_ v6_ v7_ v8_ v9_).2 (.inl (by omega))) (M.out.b.kp (M.out.o.fill10 v0_ v1_ v2_ v3_ v4_ v5_ v6_ v7_ v8_ v9_).2 (.inl (by omega))))) | (go_at_call 94; (with_reducible refine (l3_callD k c s lo hi c' s' lo' hi' c1 s1 lo1 hi1 h1 r1 R1 (U.out.below M.out.l).s (U'.out.below M.out.l).s K5.out).mono ?_); rintro e wz ⟨xm, ym, zm, am, bm, rfl, hs, hm, hb⟩; (try (replace J := Aside0.mk (J.out.below hb))); have MM := Aside0.mk hs; have NM := Aside0.mk (And.intro M.out.n hm); replace M := Aside0.mk (M.out.below hb); clear hs hm hb; obtain ⟨o0, o1, o2, o3, o4, o5, o6, o7, o8, o9⟩ := M.out.o.cells10; have fo := M.out.o.fz; have KS := Aside0.mk (fun v0_ v1_ v2_ v3_ v4_ v5_ v6_ v7_ v8_ v9_ : Value => LS.out _ (M.out.a.kp (M.out.o.fill10 v0_ v1_ v2_ v3_ v4_ v5_ v6_ v7_ v8_ v9_).2 (.inl (by omega))) (M.out.b.kp (M.out.o.fill10 v0_ v1_ v2_ v3_ v4_ v5_ v6_ v7_ v8_ v9_).2 (.inl (by omega))))))
  all_goals
    go_wp2
    refine bodyPost_ret (results_cell_row rfl _ _ (w.heap.size + 1 + 1) 34 #[.int .i64 ke, .int .i64 wi, .slice qj.A qj.n qj.c, .int .i64 c1, .int .i64 s1, .int .i64 lo1, .int .i64 hi1, .slice xm.A xm.n xm.c, .slice ym.A ym.n ym.c, .slice zm.A zm.n zm.c] (0, 0) _ rfl (M.out.o.fill10 _ _ _ _ _ _ _ _ _ _ ).1 Try.underlying34 rfl (by kernel_rfl)) rfl ?_;have n1 := NJ.out;have n2 := NM.out;unfold Made at n1 n2;exact ⟨qj, xm, ym, zm, w.heap.size + 3, wz.heap.size, rfl, M.out.endEr (M.out.o.fill10 _ _ _ _ _ _ _ _ _ _ ).2 ⟨Qk.wide J.out (by omega) (by omega), Rk.wide MM.out (by omega) (by omega)⟩ (Nat.le_refl _) (by omega) (Nat.le_refl _)⟩
set_option maxHeartbeats 16000000 in
set_option maxRecDepth 100000 in
theorem spec_EntryAdd.w1 (k : Nat) {w : World} {q x y z q' x' y' z' : Sl} {l l' : List S70} {h r h' r' : List Int} {R R' : List (List Int)} (ke wi c s lo hi ke' wi' c' s' lo' hi' : Int) (U : Aside0 (Ed w q x y z l h r R)) (U' : Aside0 (Ed w q' x' y' z' l' h' r' R')) (K1 : Aside0 (spec_EntryOk.f k ke wi l c s lo hi h r R = some false)) :
    Calls Try.prog 28 #[.agg #[.int .i64 ke, .int .i64 wi, .slice q.A q.n q.c, .int .i64 c, .int .i64 s, .int .i64 lo, .int .i64 hi, .slice x.A x.n x.c, .slice y.A y.n y.c, .slice z.A z.n z.c], .agg #[.int .i64 ke', .int .i64 wi', .slice q'.A q'.n q'.c, .int .i64 c', .int .i64 s', .int .i64 lo', .int .i64 hi', .slice x'.A x'.n x'.c, .slice y'.A y'.n y'.c, .slice z'.A z'.n z'.c]] w (fun e w' => ∃ (q1 x1 y1 z1 : Sl) (a b : Nat), e = .returned (.tuple #[.agg #[.int .i64 0, .int .i64 0, .slice q1.A q1.n q1.c, .int .i64 0, .int .i64 0, .int .i64 0, .int .i64 0, .slice x1.A x1.n x1.c, .slice y1.A y1.n y1.c, .slice z1.A z1.n z1.c], .bool false]) ∧ Er w' a b q1 x1 y1 z1 [] [] [] [] ∧ Made w w' a b ∧ Below w.heap.size w w') := by
  go_enter Try.func28, Try.ntmps28
  have M0 := Aside0.mk (ea_in w #[.int .i64 ke, .int .i64 wi, .slice q.A q.n q.c, .int .i64 c, .int .i64 s, .int .i64 lo, .int .i64 hi, .slice x.A x.n x.c, .slice y.A y.n y.c, .slice z.A z.n z.c] #[.int .i64 ke', .int .i64 wi', .slice q'.A q'.n q'.c, .int .i64 c', .int .i64 s', .int .i64 lo', .int .i64 hi', .slice x'.A x'.n x'.c, .slice y'.A y'.n y'.c, .slice z'.A z'.n z'.c])
  go_wp2_with fail
  refine (specOk_callD k ke wi c s lo hi false (U.out.below M0.out.l) K1.out).mono ?_
  rintro e w1 ⟨rfl, hb⟩
  have M1 := Aside0.mk (M0.out.below hb)
  obtain ⟨o0, o1, o2, o3, o4, o5, o6, o7, o8, o9⟩ := M1.out.o.cells10
  have fo := M1.out.o.fz
  go_wp2
  refine bodyPost_ret (results_ct rfl _ _ (w.heap.size + 1 + 1) 34 #[.int .i64 0, .int .i64 0, .slice none 0 0, .int .i64 0, .int .i64 0, .int .i64 0, .int .i64 0, .slice none 0 0, .slice none 0 0, .slice none 0 0] (0, 0) _ rfl (M1.out.o.fill10 _ _ _ _ _ _ _ _ _ _ ).1 Try.underlying34 rfl (by kernel_rfl)) rfl ?_
  exact M1.out.zeroEr (M1.out.o.fill10 _ _ _ _ _ _ _ _ _ _ ).2
set_option maxHeartbeats 16000000 in
set_option maxRecDepth 100000 in
theorem spec_EntryAdd.w2 (k : Nat) {w : World} {q x y z q' x' y' z' : Sl} {l l' : List S70} {h r h' r' : List Int} {R R' : List (List Int)} (ke wi c s lo hi ke' wi' c' s' lo' hi' : Int) (U : Aside0 (Ed w q x y z l h r R)) (U' : Aside0 (Ed w q' x' y' z' l' h' r' R')) (K1 : Aside0 (spec_EntryOk.f k ke wi l c s lo hi h r R = some true)) (K2 : Aside0 (spec_EntryOk.f k ke' wi' l' c' s' lo' hi' h' r' R' = some false)) :
    Calls Try.prog 28 #[.agg #[.int .i64 ke, .int .i64 wi, .slice q.A q.n q.c, .int .i64 c, .int .i64 s, .int .i64 lo, .int .i64 hi, .slice x.A x.n x.c, .slice y.A y.n y.c, .slice z.A z.n z.c], .agg #[.int .i64 ke', .int .i64 wi', .slice q'.A q'.n q'.c, .int .i64 c', .int .i64 s', .int .i64 lo', .int .i64 hi', .slice x'.A x'.n x'.c, .slice y'.A y'.n y'.c, .slice z'.A z'.n z'.c]] w (fun e w' => ∃ (q1 x1 y1 z1 : Sl) (a b : Nat), e = .returned (.tuple #[.agg #[.int .i64 0, .int .i64 0, .slice q1.A q1.n q1.c, .int .i64 0, .int .i64 0, .int .i64 0, .int .i64 0, .slice x1.A x1.n x1.c, .slice y1.A y1.n y1.c, .slice z1.A z1.n z1.c], .bool false]) ∧ Er w' a b q1 x1 y1 z1 [] [] [] [] ∧ Made w w' a b ∧ Below w.heap.size w w') := by
  go_enter Try.func28, Try.ntmps28
  have M0 := Aside0.mk (ea_in w #[.int .i64 ke, .int .i64 wi, .slice q.A q.n q.c, .int .i64 c, .int .i64 s, .int .i64 lo, .int .i64 hi, .slice x.A x.n x.c, .slice y.A y.n y.c, .slice z.A z.n z.c] #[.int .i64 ke', .int .i64 wi', .slice q'.A q'.n q'.c, .int .i64 c', .int .i64 s', .int .i64 lo', .int .i64 hi', .slice x'.A x'.n x'.c, .slice y'.A y'.n y'.c, .slice z'.A z'.n z'.c])
  go_wp2_with fail
  refine (specOk_callD k ke wi c s lo hi true (U.out.below M0.out.l) K1.out).mono ?_
  rintro e w1 ⟨rfl, hb⟩
  have M1 := Aside0.mk (M0.out.below hb)
  obtain ⟨y0, y1, y2, y3, y4, y5, y6, y7, y8, y9⟩ := M1.out.b.cells10
  go_wp2_with fail
  clear y0 y1 y2 y3 y4 y5 y6 y7 y8 y9
  refine (specOk_callD k ke' wi' c' s' lo' hi' false (U'.out.below M1.out.l) K2.out).mono ?_
  rintro e w2 ⟨rfl, hb⟩
  have M2 := Aside0.mk (M1.out.below hb)
  obtain ⟨o0, o1, o2, o3, o4, o5, o6, o7, o8, o9⟩ := M2.out.o.cells10
  have fo := M2.out.o.fz
  go_wp2
  refine bodyPost_ret (results_ct rfl _ _ (w.heap.size + 1 + 1) 34 #[.int .i64 0, .int .i64 0, .slice none 0 0, .int .i64 0, .int .i64 0, .int .i64 0, .int .i64 0, .slice none 0 0, .slice none 0 0, .slice none 0 0] (0, 0) _ rfl (M2.out.o.fill10 _ _ _ _ _ _ _ _ _ _ ).1 Try.underlying34 rfl (by kernel_rfl)) rfl ?_
  exact M2.out.zeroEr (M2.out.o.fill10 _ _ _ _ _ _ _ _ _ _ ).2
set_option maxHeartbeats 16000000 in
set_option maxRecDepth 100000 in
theorem spec_EntryAdd.w3 (k : Nat) {w : World} {q x y z q' x' y' z' : Sl} {l l' : List S70} {h r h' r' : List Int} {R R' : List (List Int)} (ke wi c s lo hi ke' wi' c' s' lo' hi' : Int) (U : Aside0 (Ed w q x y z l h r R)) (U' : Aside0 (Ed w q' x' y' z' l' h' r' R')) (K1 : Aside0 (spec_EntryOk.f k ke wi l c s lo hi h r R = some true)) (K2 : Aside0 (spec_EntryOk.f k ke' wi' l' c' s' lo' hi' h' r' R' = some true)) (HN : Aside0 (¬ ke = ke')) :
    Calls Try.prog 28 #[.agg #[.int .i64 ke, .int .i64 wi, .slice q.A q.n q.c, .int .i64 c, .int .i64 s, .int .i64 lo, .int .i64 hi, .slice x.A x.n x.c, .slice y.A y.n y.c, .slice z.A z.n z.c], .agg #[.int .i64 ke', .int .i64 wi', .slice q'.A q'.n q'.c, .int .i64 c', .int .i64 s', .int .i64 lo', .int .i64 hi', .slice x'.A x'.n x'.c, .slice y'.A y'.n y'.c, .slice z'.A z'.n z'.c]] w (fun e w' => ∃ (q1 x1 y1 z1 : Sl) (a b : Nat), e = .returned (.tuple #[.agg #[.int .i64 0, .int .i64 0, .slice q1.A q1.n q1.c, .int .i64 0, .int .i64 0, .int .i64 0, .int .i64 0, .slice x1.A x1.n x1.c, .slice y1.A y1.n y1.c, .slice z1.A z1.n z1.c], .bool false]) ∧ Er w' a b q1 x1 y1 z1 [] [] [] [] ∧ Made w w' a b ∧ Below w.heap.size w w') := by
  go_enter Try.func28, Try.ntmps28
  have M0 := Aside0.mk (ea_in w #[.int .i64 ke, .int .i64 wi, .slice q.A q.n q.c, .int .i64 c, .int .i64 s, .int .i64 lo, .int .i64 hi, .slice x.A x.n x.c, .slice y.A y.n y.c, .slice z.A z.n z.c] #[.int .i64 ke', .int .i64 wi', .slice q'.A q'.n q'.c, .int .i64 c', .int .i64 s', .int .i64 lo', .int .i64 hi', .slice x'.A x'.n x'.c, .slice y'.A y'.n y'.c, .slice z'.A z'.n z'.c])
  go_wp2_with fail
  refine (specOk_callD k ke wi c s lo hi true (U.out.below M0.out.l) K1.out).mono ?_
  rintro e w1 ⟨rfl, hb⟩
  have M1 := Aside0.mk (M0.out.below hb)
  obtain ⟨y0, y1, y2, y3, y4, y5, y6, y7, y8, y9⟩ := M1.out.b.cells10
  go_wp2_with fail
  clear y0 y1 y2 y3 y4 y5 y6 y7 y8 y9
  refine (specOk_callD k ke' wi' c' s' lo' hi' true (U'.out.below M1.out.l) K2.out).mono ?_
  rintro e w2 ⟨rfl, hb⟩
  have M2 := Aside0.mk (M1.out.below hb)
  obtain ⟨x0, x1, x2, x3, x4, x5, x6, x7, x8, x9⟩ := M2.out.a.cells10
  obtain ⟨y0, y1, y2, y3, y4, y5, y6, y7, y8, y9⟩ := M2.out.b.cells10
  have hne := HN.out
  obtain ⟨o0, o1, o2, o3, o4, o5, o6, o7, o8, o9⟩ := M2.out.o.cells10
  have fo := M2.out.o.fz
  go_wp2
  refine bodyPost_ret (results_ct rfl _ _ (w.heap.size + 1 + 1) 34 #[.int .i64 0, .int .i64 0, .slice none 0 0, .int .i64 0, .int .i64 0, .int .i64 0, .int .i64 0, .slice none 0 0, .slice none 0 0, .slice none 0 0] (0, 0) _ rfl (M2.out.o.fill10 _ _ _ _ _ _ _ _ _ _ ).1 Try.underlying34 rfl (by kernel_rfl)) rfl ?_
  exact M2.out.zeroEr (M2.out.o.fill10 _ _ _ _ _ _ _ _ _ _ ).2
set_option maxHeartbeats 16000000 in
set_option maxRecDepth 100000 in
theorem spec_EntryAdd.w4 (k : Nat) {w : World} {q x y z q' x' y' z' : Sl} {l l' : List S70} {h r h' r' : List Int} {R R' : List (List Int)} (ke wi c s lo hi wi' c' s' lo' hi' : Int) (U : Aside0 (Ed w q x y z l h r R)) (U' : Aside0 (Ed w q' x' y' z' l' h' r' R')) (K1 : Aside0 (spec_EntryOk.f k ke wi l c s lo hi h r R = some true)) (K2 : Aside0 (spec_EntryOk.f k ke wi' l' c' s' lo' hi' h' r' R' = some true)) (HN : Aside0 (¬ wi = wi')) :
    Calls Try.prog 28 #[.agg #[.int .i64 ke, .int .i64 wi, .slice q.A q.n q.c, .int .i64 c, .int .i64 s, .int .i64 lo, .int .i64 hi, .slice x.A x.n x.c, .slice y.A y.n y.c, .slice z.A z.n z.c], .agg #[.int .i64 ke, .int .i64 wi', .slice q'.A q'.n q'.c, .int .i64 c', .int .i64 s', .int .i64 lo', .int .i64 hi', .slice x'.A x'.n x'.c, .slice y'.A y'.n y'.c, .slice z'.A z'.n z'.c]] w (fun e w' => ∃ (q1 x1 y1 z1 : Sl) (a b : Nat), e = .returned (.tuple #[.agg #[.int .i64 0, .int .i64 0, .slice q1.A q1.n q1.c, .int .i64 0, .int .i64 0, .int .i64 0, .int .i64 0, .slice x1.A x1.n x1.c, .slice y1.A y1.n y1.c, .slice z1.A z1.n z1.c], .bool false]) ∧ Er w' a b q1 x1 y1 z1 [] [] [] [] ∧ Made w w' a b ∧ Below w.heap.size w w') := by
  go_enter Try.func28, Try.ntmps28
  have M0 := Aside0.mk (ea_in w #[.int .i64 ke, .int .i64 wi, .slice q.A q.n q.c, .int .i64 c, .int .i64 s, .int .i64 lo, .int .i64 hi, .slice x.A x.n x.c, .slice y.A y.n y.c, .slice z.A z.n z.c] #[.int .i64 ke, .int .i64 wi', .slice q'.A q'.n q'.c, .int .i64 c', .int .i64 s', .int .i64 lo', .int .i64 hi', .slice x'.A x'.n x'.c, .slice y'.A y'.n y'.c, .slice z'.A z'.n z'.c])
  go_wp2_with fail
  refine (specOk_callD k ke wi c s lo hi true (U.out.below M0.out.l) K1.out).mono ?_
  rintro e w1 ⟨rfl, hb⟩
  have M1 := Aside0.mk (M0.out.below hb)
  obtain ⟨y0, y1, y2, y3, y4, y5, y6, y7, y8, y9⟩ := M1.out.b.cells10
  go_wp2_with fail
  clear y0 y1 y2 y3 y4 y5 y6 y7 y8 y9
  refine (specOk_callD k ke wi' c' s' lo' hi' true (U'.out.below M1.out.l) K2.out).mono ?_
  rintro e w2 ⟨rfl, hb⟩
  have M2 := Aside0.mk (M1.out.below hb)
  obtain ⟨x0, x1, x2, x3, x4, x5, x6, x7, x8, x9⟩ := M2.out.a.cells10
  obtain ⟨y0, y1, y2, y3, y4, y5, y6, y7, y8, y9⟩ := M2.out.b.cells10
  have hne := HN.out
  obtain ⟨o0, o1, o2, o3, o4, o5, o6, o7, o8, o9⟩ := M2.out.o.cells10
  have fo := M2.out.o.fz
  go_wp2
  refine bodyPost_ret (results_ct rfl _ _ (w.heap.size + 1 + 1) 34 #[.int .i64 0, .int .i64 0, .slice none 0 0, .int .i64 0, .int .i64 0, .int .i64 0, .int .i64 0, .slice none 0 0, .slice none 0 0, .slice none 0 0] (0, 0) _ rfl (M2.out.o.fill10 _ _ _ _ _ _ _ _ _ _ ).1 Try.underlying34 rfl (by kernel_rfl)) rfl ?_
  exact M2.out.zeroEr (M2.out.o.fill10 _ _ _ _ _ _ _ _ _ _ ).2
set_option maxHeartbeats 16000000 in
set_option maxRecDepth 100000 in
theorem spec_EntryAdd.w5 (k : Nat) {w : World} {q x y z q' x' y' z' : Sl} {l l' : List S70} {h r h' r' : List Int} {R R' : List (List Int)} (ke wi c s lo hi c' s' lo' hi' : Int) (U : Aside0 (Ed w q x y z l h r R)) (U' : Aside0 (Ed w q' x' y' z' l' h' r' R')) (K1 : Aside0 (spec_EntryOk.f k ke wi l c s lo hi h r R = some true)) (K2 : Aside0 (spec_EntryOk.f k ke wi l' c' s' lo' hi' h' r' R' = some true)) (K3 : Aside0 (spec_SetApart.f k l l' = some false)) :
    Calls Try.prog 28 #[.agg #[.int .i64 ke, .int .i64 wi, .slice q.A q.n q.c, .int .i64 c, .int .i64 s, .int .i64 lo, .int .i64 hi, .slice x.A x.n x.c, .slice y.A y.n y.c, .slice z.A z.n z.c], .agg #[.int .i64 ke, .int .i64 wi, .slice q'.A q'.n q'.c, .int .i64 c', .int .i64 s', .int .i64 lo', .int .i64 hi', .slice x'.A x'.n x'.c, .slice y'.A y'.n y'.c, .slice z'.A z'.n z'.c]] w (fun e w' => ∃ (q1 x1 y1 z1 : Sl) (a b : Nat), e = .returned (.tuple #[.agg #[.int .i64 0, .int .i64 0, .slice q1.A q1.n q1.c, .int .i64 0, .int .i64 0, .int .i64 0, .int .i64 0, .slice x1.A x1.n x1.c, .slice y1.A y1.n y1.c, .slice z1.A z1.n z1.c], .bool false]) ∧ Er w' a b q1 x1 y1 z1 [] [] [] [] ∧ Made w w' a b ∧ Below w.heap.size w w') := by
  go_enter Try.func28, Try.ntmps28
  have M0 := Aside0.mk (ea_in w #[.int .i64 ke, .int .i64 wi, .slice q.A q.n q.c, .int .i64 c, .int .i64 s, .int .i64 lo, .int .i64 hi, .slice x.A x.n x.c, .slice y.A y.n y.c, .slice z.A z.n z.c] #[.int .i64 ke, .int .i64 wi, .slice q'.A q'.n q'.c, .int .i64 c', .int .i64 s', .int .i64 lo', .int .i64 hi', .slice x'.A x'.n x'.c, .slice y'.A y'.n y'.c, .slice z'.A z'.n z'.c])
  go_wp2_with fail
  refine (specOk_callD k ke wi c s lo hi true (U.out.below M0.out.l) K1.out).mono ?_
  rintro e w1 ⟨rfl, hb⟩
  have M1 := Aside0.mk (M0.out.below hb)
  obtain ⟨y0, y1, y2, y3, y4, y5, y6, y7, y8, y9⟩ := M1.out.b.cells10
  go_wp2_with fail
  clear y0 y1 y2 y3 y4 y5 y6 y7 y8 y9
  refine (specOk_callD k ke wi c' s' lo' hi' true (U'.out.below M1.out.l) K2.out).mono ?_
  rintro e w2 ⟨rfl, hb⟩
  have M2 := Aside0.mk (M1.out.below hb)
  obtain ⟨x0, x1, x2, x3, x4, x5, x6, x7, x8, x9⟩ := M2.out.a.cells10
  obtain ⟨y0, y1, y2, y3, y4, y5, y6, y7, y8, y9⟩ := M2.out.b.cells10
  go_wp2_with fail
  clear x0 x1 x2 x3 x4 x5 x6 x7 x8 x9 y0 y1 y2 y3 y4 y5 y6 y7 y8 y9
  refine (specApart_callD k false (U.out.below M2.out.l).q (U'.out.below M2.out.l).q K3.out).mono ?_
  rintro e w3 ⟨rfl, hb⟩
  have M3 := Aside0.mk (M2.out.below hb)
  obtain ⟨o0, o1, o2, o3, o4, o5, o6, o7, o8, o9⟩ := M3.out.o.cells10
  have fo := M3.out.o.fz
  go_wp2
  refine bodyPost_ret (results_ct rfl _ _ (w.heap.size + 1 + 1) 34 #[.int .i64 0, .int .i64 0, .slice none 0 0, .int .i64 0, .int .i64 0, .int .i64 0, .int .i64 0, .slice none 0 0, .slice none 0 0, .slice none 0 0] (0, 0) _ rfl (M3.out.o.fill10 _ _ _ _ _ _ _ _ _ _ ).1 Try.underlying34 rfl (by kernel_rfl)) rfl ?_
  exact M3.out.zeroEr (M3.out.o.fill10 _ _ _ _ _ _ _ _ _ _ ).2
set_option maxHeartbeats 16000000 in
set_option maxRecDepth 100000 in
theorem spec_EntryAdd.w6 (k : Nat) {w : World} {q x y z q' x' y' z' : Sl} {l l' : List S70} {h r h' r' : List Int} {R R' : List (List Int)} (ke wi c s lo hi c' s' lo' hi' c1 s1 lo1 hi1 : Int) (l1 : List S70) (h1 r1 : List Int) (R1 : List (List Int)) (U : Aside0 (Ed w q x y z l h r R)) (U' : Aside0 (Ed w q' x' y' z' l' h' r' R')) (K1 : Aside0 (spec_EntryOk.f k ke wi l c s lo hi h r R = some true)) (K2 : Aside0 (spec_EntryOk.f k ke wi l' c' s' lo' hi' h' r' R' = some true)) (K3 : Aside0 (spec_SetApart.f k l l' = some true)) (K4 : Aside0 (spec_l5Join.f k l l' = some l1)) (K5 : Aside0 (spec_l3Merge.f k c s lo hi h r R c' s' lo' hi' h' r' R' = some (c1, s1, lo1, hi1, h1, r1, R1))) :
    Calls Try.prog 28 #[.agg #[.int .i64 ke, .int .i64 wi, .slice q.A q.n q.c, .int .i64 c, .int .i64 s, .int .i64 lo, .int .i64 hi, .slice x.A x.n x.c, .slice y.A y.n y.c, .slice z.A z.n z.c], .agg #[.int .i64 ke, .int .i64 wi, .slice q'.A q'.n q'.c, .int .i64 c', .int .i64 s', .int .i64 lo', .int .i64 hi', .slice x'.A x'.n x'.c, .slice y'.A y'.n y'.c, .slice z'.A z'.n z'.c]] w (fun e w' => ∃ (q1 x1 y1 z1 : Sl) (a b : Nat), e = .returned (.tuple #[.agg #[.int .i64 ke, .int .i64 wi, .slice q1.A q1.n q1.c, .int .i64 c1, .int .i64 s1, .int .i64 lo1, .int .i64 hi1, .slice x1.A x1.n x1.c, .slice y1.A y1.n y1.c, .slice z1.A z1.n z1.c], .bool true]) ∧ Er w' a b q1 x1 y1 z1 l1 h1 r1 R1 ∧ Made w w' a b ∧ Below w.heap.size w w') := by
  go_enter Try.func28, Try.ntmps28
  have M0 := Aside0.mk (ea_in w #[.int .i64 ke, .int .i64 wi, .slice q.A q.n q.c, .int .i64 c, .int .i64 s, .int .i64 lo, .int .i64 hi, .slice x.A x.n x.c, .slice y.A y.n y.c, .slice z.A z.n z.c] #[.int .i64 ke, .int .i64 wi, .slice q'.A q'.n q'.c, .int .i64 c', .int .i64 s', .int .i64 lo', .int .i64 hi', .slice x'.A x'.n x'.c, .slice y'.A y'.n y'.c, .slice z'.A z'.n z'.c])
  go_wp2_with fail
  refine (specOk_callD k ke wi c s lo hi true (U.out.below M0.out.l) K1.out).mono ?_
  rintro e w1 ⟨rfl, hb⟩
  have M1 := Aside0.mk (M0.out.below hb)
  obtain ⟨y0, y1, y2, y3, y4, y5, y6, y7, y8, y9⟩ := M1.out.b.cells10
  go_wp2_with fail
  clear y0 y1 y2 y3 y4 y5 y6 y7 y8 y9
  refine (specOk_callD k ke wi c' s' lo' hi' true (U'.out.below M1.out.l) K2.out).mono ?_
  rintro e w2 ⟨rfl, hb⟩
  have M2 := Aside0.mk (M1.out.below hb)
  obtain ⟨x0, x1, x2, x3, x4, x5, x6, x7, x8, x9⟩ := M2.out.a.cells10
  obtain ⟨y0, y1, y2, y3, y4, y5, y6, y7, y8, y9⟩ := M2.out.b.cells10
  go_wp2_with fail
  clear x0 x1 x2 x3 x4 x5 x6 x7 x8 x9 y0 y1 y2 y3 y4 y5 y6 y7 y8 y9
  refine (specApart_callD k true (U.out.below M2.out.l).q (U'.out.below M2.out.l).q K3.out).mono ?_
  rintro e w3 ⟨rfl, hb⟩
  have M3 := Aside0.mk (M2.out.below hb)
  obtain ⟨x0, x1, x2, x3, x4, x5, x6, x7, x8, x9⟩ := M3.out.a.cells10
  obtain ⟨y0, y1, y2, y3, y4, y5, y6, y7, y8, y9⟩ := M3.out.b.cells10
  go_wp2_with fail
  clear x0 x1 x2 x3 x4 x5 x6 x7 x8 x9 y0 y1 y2 y3 y4 y5 y6 y7 y8 y9
  refine (spec_l6Add.walk k ke wi c s lo hi ke wi c' s' lo' hi' c1 s1 lo1 hi1 (U.out.below M3.out.l) (U'.out.below M3.out.l) l1 h1 r1 R1 K4 K5).mono ?_
  rintro e w4 ⟨q6, x6, y6, z6, a6, b6, rfl, hs, hm, hb⟩
  have M4 := Aside0.mk (M3.out.below hb)
  have E6 := Aside0.mk hs
  have n1 := hm
  clear hs hm
  unfold Made at n1
  have n2 := M3.out.n
  have NN := Aside0.mk (And.intro n1 n2)
  clear n1 n2 hb
  obtain ⟨o0, o1, o2, o3, o4, o5, o6, o7, o8, o9⟩ := M4.out.o.cells10
  have fo := M4.out.o.fz
  go_wp2
  refine bodyPost_ret (results_ct rfl _ _ (w.heap.size + 1 + 1) 34 #[.int .i64 ke, .int .i64 wi, .slice q6.A q6.n q6.c, .int .i64 c1, .int .i64 s1, .int .i64 lo1, .int .i64 hi1, .slice x6.A x6.n x6.c, .slice y6.A y6.n y6.c, .slice z6.A z6.n z6.c] (0, 0) _ rfl (M4.out.o.fill10 _ _ _ _ _ _ _ _ _ _ ).1 Try.underlying34 rfl (by kernel_rfl)) rfl ?_
  have n1 := NN.out
  exact ⟨q6, x6, y6, z6, a6, b6, rfl, M4.out.endEr (M4.out.o.fill10 _ _ _ _ _ _ _ _ _ _ ).2 E6.out (by omega) (by omega) (by omega)⟩
def SpecA (ke wi : Int) (l : List S70) (c s lo hi : Int) (h r : List Int) (R : List (List Int)) (ke' wi' : Int) (l' : List S70) (c' s' lo' hi' : Int) (h' r' : List Int) (R' : List (List Int)) (e1 e2 : Int) (l1 : List S70) (c1 s1 lo1 hi1 : Int) (h1 r1 : List Int) (R1 : List (List Int)) (t : Bool) : Prop := ∀ (w : World) (q x y z q' x' y' z' : Sl), Ed w q x y z l h r R → Ed w q' x' y' z' l' h' r' R' → Calls Try.prog 28 #[.agg #[.int .i64 ke, .int .i64 wi, .slice q.A q.n q.c, .int .i64 c, .int .i64 s, .int .i64 lo, .int .i64 hi, .slice x.A x.n x.c, .slice y.A y.n y.c, .slice z.A z.n z.c], .agg #[.int .i64 ke', .int .i64 wi', .slice q'.A q'.n q'.c, .int .i64 c', .int .i64 s', .int .i64 lo', .int .i64 hi', .slice x'.A x'.n x'.c, .slice y'.A y'.n y'.c, .slice z'.A z'.n z'.c]] w fun e w' => ∃ (q1 x1 y1 z1 : Sl) (a b : Nat), e = .returned (.tuple #[.agg #[.int .i64 e1, .int .i64 e2, .slice q1.A q1.n q1.c, .int .i64 c1, .int .i64 s1, .int .i64 lo1, .int .i64 hi1, .slice x1.A x1.n x1.c, .slice y1.A y1.n y1.c, .slice z1.A z1.n z1.c], .bool t]) ∧ Er w' a b q1 x1 y1 z1 l1 h1 r1 R1 ∧ Made w w' a b ∧ Below w.heap.size w w'
theorem specA_callD (k : Nat) {w : World} {q x y z q' x' y' z' : Sl} {l l' : List S70} {h r h' r' : List Int} {R R' : List (List Int)} (ke wi c s lo hi ke' wi' c' s' lo' hi' e1 e2 c1 s1 lo1 hi1 : Int) (l1 : List S70) (h1 r1 : List Int) (R1 : List (List Int)) (t : Bool) (u : Ed w q x y z l h r R) (u' : Ed w q' x' y' z' l' h' r' R') (he : SpecA ke wi l c s lo hi h r R ke' wi' l' c' s' lo' hi' h' r' R' e1 e2 l1 c1 s1 lo1 hi1 h1 r1 R1 t) :
    Calls Try.prog 28 #[.agg #[.int .i64 ke, .int .i64 wi, .slice q.A q.n q.c, .int .i64 c, .int .i64 s, .int .i64 lo, .int .i64 hi, .slice x.A x.n x.c, .slice y.A y.n y.c, .slice z.A z.n z.c], .agg #[.int .i64 ke', .int .i64 wi', .slice q'.A q'.n q'.c, .int .i64 c', .int .i64 s', .int .i64 lo', .int .i64 hi', .slice x'.A x'.n x'.c, .slice y'.A y'.n y'.c, .slice z'.A z'.n z'.c]] w fun e w' => ∃ (q1 x1 y1 z1 : Sl) (a b : Nat), e = .returned (.tuple #[.agg #[.int .i64 e1, .int .i64 e2, .slice q1.A q1.n q1.c, .int .i64 c1, .int .i64 s1, .int .i64 lo1, .int .i64 hi1, .slice x1.A x1.n x1.c, .slice y1.A y1.n y1.c, .slice z1.A z1.n z1.c], .bool t]) ∧ Er w' a b q1 x1 y1 z1 l1 h1 r1 R1 ∧ Made w w' a b ∧ Below w.heap.size w w' := he w q x y z q' x' y' z' u u'
def ImplA (ke wi : Int) (l : List S70) (c s lo hi : Int) (h r : List Int) (R : List (List Int)) (ke' wi' : Int) (l' : List S70) (c' s' lo' hi' : Int) (h' r' : List Int) (R' : List (List Int)) (e1 e2 : Int) (l1 : List S70) (c1 s1 lo1 hi1 : Int) (h1 r1 : List Int) (R1 : List (List Int)) (t : Bool) : Prop := ∀ (w : World) (q x y z q' x' y' z' : Sl), Ed w q x y z l h r R → Ed w q' x' y' z' l' h' r' R' → Calls Try.prog 27 #[.agg #[.int .i64 ke, .int .i64 wi, .slice q.A q.n q.c, .int .i64 c, .int .i64 s, .int .i64 lo, .int .i64 hi, .slice x.A x.n x.c, .slice y.A y.n y.c, .slice z.A z.n z.c], .agg #[.int .i64 ke', .int .i64 wi', .slice q'.A q'.n q'.c, .int .i64 c', .int .i64 s', .int .i64 lo', .int .i64 hi', .slice x'.A x'.n x'.c, .slice y'.A y'.n y'.c, .slice z'.A z'.n z'.c]] w fun e w' => ∃ (q1 x1 y1 z1 : Sl) (a b : Nat), e = .returned (.tuple #[.agg #[.int .i64 e1, .int .i64 e2, .slice q1.A q1.n q1.c, .int .i64 c1, .int .i64 s1, .int .i64 lo1, .int .i64 hi1, .slice x1.A x1.n x1.c, .slice y1.A y1.n y1.c, .slice z1.A z1.n z1.c], .bool t]) ∧ Ek w' a b q1 x1 y1 z1 l1 h1 r1 R1 ∧ Made w w' a b ∧ Below w.heap.size w w'
theorem implA_callD (k : Nat) {w : World} {q x y z q' x' y' z' : Sl} {l l' : List S70} {h r h' r' : List Int} {R R' : List (List Int)} (ke wi c s lo hi ke' wi' c' s' lo' hi' e1 e2 c1 s1 lo1 hi1 : Int) (l1 : List S70) (h1 r1 : List Int) (R1 : List (List Int)) (t : Bool) (u : Ed w q x y z l h r R) (u' : Ed w q' x' y' z' l' h' r' R') (he : ImplA ke wi l c s lo hi h r R ke' wi' l' c' s' lo' hi' h' r' R' e1 e2 l1 c1 s1 lo1 hi1 h1 r1 R1 t) :
    Calls Try.prog 27 #[.agg #[.int .i64 ke, .int .i64 wi, .slice q.A q.n q.c, .int .i64 c, .int .i64 s, .int .i64 lo, .int .i64 hi, .slice x.A x.n x.c, .slice y.A y.n y.c, .slice z.A z.n z.c], .agg #[.int .i64 ke', .int .i64 wi', .slice q'.A q'.n q'.c, .int .i64 c', .int .i64 s', .int .i64 lo', .int .i64 hi', .slice x'.A x'.n x'.c, .slice y'.A y'.n y'.c, .slice z'.A z'.n z'.c]] w fun e w' => ∃ (q1 x1 y1 z1 : Sl) (a b : Nat), e = .returned (.tuple #[.agg #[.int .i64 e1, .int .i64 e2, .slice q1.A q1.n q1.c, .int .i64 c1, .int .i64 s1, .int .i64 lo1, .int .i64 hi1, .slice x1.A x1.n x1.c, .slice y1.A y1.n y1.c, .slice z1.A z1.n z1.c], .bool t]) ∧ Ek w' a b q1 x1 y1 z1 l1 h1 r1 R1 ∧ Made w w' a b ∧ Below w.heap.size w w' := he w q x y z q' x' y' z' u u'
end Go.Proofs.Ytdciagkholijlaa.PFnExactEntryAdd
