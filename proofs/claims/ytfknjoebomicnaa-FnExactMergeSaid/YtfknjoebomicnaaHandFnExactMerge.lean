/- Merge of the program is Merge of the reference, for all arguments; it leaves its arguments as they were, and hands back memory of its own; the law is walked by hand. -/
import Derived.Test.YtfknjoebomicnaaPFnExactMergex1
import Derived.Test.YtfknjoebomicnaaPFnExactMergex2
import Derived.Test.YtfknjoebomicnaaPFnExactMergex6
import Derived.Test.YtfknjoebomicnaaPFnExactMergex9
import Derived.Test.YtfknjoebomicnaaAid
import Derived.WalkKit
import Derived.Deep.RegionHeld3
import Derived.Deep.DeepCutAuto
namespace Go.Proofs.Ytfknjoebomicnaa.HFnExactMerge
open Go.RowKit Go.Proofs.Ytfknjoebomicnaa.PFnExactMerge Go.Proofs.YtfknjoebomicnaaW.PrintWords Go.Proofs.YtfknjoebomicnaaW.PrintLast Go.Proofs.YtfknjoebomicnaaW.PrintMore Go.Proofs.Ytfknjoebomicnaa.Aid
set_option linter.unusedVariables false
set_option linter.unusedSimpArgs false

def marksI (k : Int) (n : Nat) : List Int := (List.range n).map fun j : Nat => k + (j : Int)
theorem marksI_length (k : Int) (n : Nat) : (marksI k n).length = n := by simp [marksI]
theorem marksI_get (k : Int) (n i : Nat) (h : i < (marksI k n).length) : (marksI k n)[i] = k + (i : Int) := by simp [marksI]
def marksII : Int → List (List Int) → List (List Int)
  | _, [] => []
  | k, l :: ls => marksI k l.length :: marksII (k + (l.length : Int)) ls
def lensII : List (List Int) → Nat
  | [] => 0
  | l :: ls => l.length + lensII ls
theorem marksII_length (ls : List (List Int)) : ∀ k, (marksII k ls).length = ls.length := by
  induction ls with
  | nil => intro k; rfl
  | cons l ls ih => intro k; simp [marksII, ih]
theorem lensII_take (ls : List (List Int)) : ∀ i, (h : i < ls.length) → lensII (ls.take (i + 1)) = lensII (ls.take i) + ls[i].length := by
  induction ls with
  | nil => intro i h; simp at h
  | cons l ls ih =>
    intro i h
    cases i with
    | zero => simp [lensII]
    | succ i =>
      have := ih i (by simpa using h)
      simp only [List.take_succ_cons, lensII, List.getElem_cons_succ]
      omega
theorem lensII_le (ls : List (List Int)) : ∀ i, lensII (ls.take i) ≤ lensII ls := by
  induction ls with
  | nil => intro i; simp [lensII]
  | cons l ls ih =>
    intro i
    cases i with
    | zero => simp [lensII]
    | succ i => have := ih i; simp only [List.take_succ_cons, lensII]; omega
theorem marksII_get (ls : List (List Int)) : ∀ (k : Int) (i : Nat) (h : i < ls.length), (marksII k ls)[i]'(by rw [marksII_length]; exact h) = marksI (k + (lensII (ls.take i) : Nat)) ls[i].length := by
  induction ls with
  | nil => intro k i h; simp at h
  | cons l ls ih =>
    intro k i h
    cases i with
    | zero => simp [marksII, lensII]
    | succ i =>
      have := ih (k + (l.length : Int)) i (by simpa using h)
      simp only [marksII, List.getElem_cons_succ, this, List.take_succ_cons, lensII]
      congr 1
      omega
theorem marksII_set (ls : List (List Int)) (k : Int) (i : Nat) (h : i < ls.length) : ((marksII k ls).take i ++ ls.drop i).set i (marksI (k + (lensII (ls.take i) : Nat)) ls[i].length) = (marksII k ls).take (i + 1) ++ ls.drop (i + 1) := by
  have hl : ((marksII k ls).take i).length = i := by rw [List.length_take, marksII_length]; omega
  rw [List.set_append_right _ _ (by omega), hl, Nat.sub_self, List.drop_eq_getElem_cons h, List.set_cons_zero, List.take_succ_eq_append_getElem (by rw [marksII_length]; exact h), marksII_get ls k i h, List.append_assoc]
  rfl
theorem markI_call (k : Nat) {w : World} {a b : Nat} {v : Value} {l : List Int} {ok : Nat → Prop} (k0 : Int) (u : Kd.R (Kd.int .i64) 3 w a ok v l) (hok : ∀ k, ok k → k < b) (ha : a ≤ w.heap.size) (he : laws_markIntS.f k l k0 = some (k0 + (l.length : Int), marksI k0 l.length)) :
    Calls Try.prog 45 #[v, .int .i64 k0] w fun e w' => e = .returned (.int .i64 (k0 + (l.length : Int))) ∧ Kd.R (Kd.int .i64) 3 w' a ok v (marksI k0 l.length) ∧ Kp w w' a b ∧ Kept w w' (fun k => some k = v.ownBlock) := by
  obtain ⟨w0, hw0, hB⟩ : ∃ w0 : World, w0.heap.size = a ∧ Below a w0 w := by
    refine ⟨{ w with heap := w.heap.extract 0 a }, by simp; omega, ⟨rfl, rfl, rfl, by simp; omega, fun i hi => ?_⟩⟩
    simp [Array.getElem?_extract]
    omega
  subst hw0
  have u1 : Kd.R (Kd.int .i64) 3 w w0.heap.size (fun k => some k = v.ownBlock) v l := Kd.R_tight rfl u
  refine (laws_markIntS.calls k (fun k => some k = v.ownBlock) v l k0 _ _ w0 w hB u1 he).mono ?_
  rintro e w' ⟨rfl, hr, hb, hk⟩
  refine ⟨rfl, Kd.R_reok rfl hr (fun k hk => u.1 k hk), ⟨hb.os.trans hB.os.symm, hb.tape.trans hB.tape.symm, hb.output.trans hB.output.symm, hk.mono (fun i hi => ⟨Kd.R_base u i hi.symm, hok i (u.1 i hi.symm)⟩)⟩, hk⟩
set_option maxHeartbeats 4000000 in
theorem markII_call (k : Nat) (hm : Aside0 (∀ (l : List Int) (k0 : Int), l.length ≤ 1048576 → 0 ≤ k0 → k0 ≤ 1073741824 → laws_markIntS.f k l k0 = some (k0 + (l.length : Int), marksI k0 l.length))) {w : World} {a b : Nat} {z : Sl} {R : List (List Int)} {ok : Nat → Prop} (k0 : Int) (u : Kd.S (Kd.slice 3 (Kd.int .i64)) 23 w a ok (.slice z.A z.n z.c) R) (hok : ∀ k, ok k → k < b) (ha : a ≤ w.heap.size)
    (hk0 : 0 ≤ k0) (hkb : k0 + (lensII R : Nat) ≤ 1073741824) (hR : R.length ≤ 1048576) (hl : ∀ l ∈ R, l.length ≤ 1048576) :
    Calls Try.prog 46 #[.slice z.A z.n z.c, .int .i64 k0] w fun e w' => e = .returned (.int .i64 (k0 + (lensII R : Nat))) ∧ Kd.S (Kd.slice 3 (Kd.int .i64)) 23 w' a ok (.slice z.A z.n z.c) (marksII k0 R) ∧ Kp w w' a b ∧ Kept w w' ok := by
  have hzn : z.n = R.length := (Kd.S_reads' u).1
  have HZ := Aside0.mk hzn
  have HL := Aside0.mk hl
  have HOK := Aside0.mk hok
  have U := Aside0.mk u
  have HR := Aside0.mk hR
  have HB := Aside0.mk hkb
  have HA := Aside0.mk ha
  have hzm : z.n ≤ 1048576 := by omega
  clear hzn hl hok u hR hkb ha
  go_enter Try.func46, Try.ntmps46
  go_wp2
  go_loopg [1, 5] z.n (fun gg s1 s5 wr => ∃ i : Nat, i ≤ z.n ∧ z.n - i ≤ gg ∧ s5 = .int .i64 i ∧ s1 = .int .i64 (k0 + (lensII (R.take i) : Nat)) ∧ Aside0 (Kd.S (Kd.slice 3 (Kd.int .i64)) 23 wr a ok (.slice z.A z.n z.c) ((marksII k0 R).take i ++ R.drop i)) ∧ Aside0 (Kp w wr a b) ∧ Aside0 (Kept w wr ok))
  case atStart => exact ⟨0, Nat.zero_le _, by omega, rfl, by simp [lensII], ⟨by simpa using U.out⟩, ⟨Kp.refl _ _ _⟩, ⟨Kept.refl _ _⟩⟩
  case round =>
    obtain ⟨i, hi, hg, rfl, rfl, S, KP, KT⟩ := hrel
    have lk := lensII_le R i
    have lk' : k0 + (lensII (R.take i) : Nat) ≤ 1073741824 := by have := HB.out; omega
    by_cases hlt : i < z.n
    · have hltz : (i : Int) < (z.n : Int) := by omega
      have hiR : i < R.length := by have := HZ.out; omega
      have hcl : ((marksII k0 R).take i ++ R.drop i).length = R.length := by rw [List.length_append, List.length_take, List.length_drop, marksII_length]; omega
      obtain ⟨g, cap, hv, hbg, hgs, _⟩ := Kd.S_form S.out (by rw [hcl]; omega)
      injection hv with hA hn hc
      have S2 := S.out
      rw [hA] at S2
      obtain ⟨oki, c, hcl2, hM, hcell, hoki, hH⟩ := Kd.S_lend S2 ([] : List Int) (i : Int) (by omega) (by omega)
      obtain ⟨v, rfl, hRv⟩ := hM
      have hget : ((marksII k0 R).take i ++ R.drop i).getD (i : Int).toNat [] = R[i] := by
        rw [Int.toNat_natCast, List.getD_eq_getElem?_getD, List.getElem?_append_right (by rw [List.length_take, marksII_length]; omega), List.length_take, marksII_length, Nat.min_eq_left (by omega), Nat.sub_self, List.drop_eq_getElem_cons hiR]
        rfl
      rw [hget] at hRv
      have hc0 := hcell 0 v rfl
      simp only [Int.toNat_natCast, Kd.slice, Nat.mul_one, Nat.add_zero] at hc0
      obtain ⟨A1, c1, rfl⟩ := Kd.R_slice hRv
      have hl1 : R[i].length ≤ 1048576 := HL.out _ (List.getElem_mem hiR)
      have hcall := markI_call (b := b) k (k0 + (lensII (R.take i) : Nat)) hRv (fun q hq => HOK.out q (hoki q hq).1) (Nat.le_trans HA.out KT.out.1) (hm.out _ _ hl1 (by omega) lk')
      have hts := lensII_take R i hiR
      have hset := marksII_set R k0 i hiR
      have HH := Aside0.mk hH
      have HRV := Aside0.mk hRv
      have HOI := Aside0.mk hoki
      have HTS := Aside0.mk hts
      have HSET := Aside0.mk hset
      have HAA := Aside0.mk hA
      clear hcell hcl2 hget hH hRv hoki hts hset S S2 hn hc hA hcl
      have hAz : z.A = some ⟨g, 0, none⟩ := HAA.out
      generalize hzA : z.A = zA at *
      subst hAz
      go_wp2_with (go_at_call 45; refine hcall.mono ?_; rintro e w' ⟨rfl, hr2, hkp, hkt⟩; have HR2 := Aside0.mk hr2; have HKP := Aside0.mk hkp; have HKT := Aside0.mk hkt; clear hr2 hkp hkt)
      go_roundg (z.n - (i + 1))
      case measure => omega
      case rel =>
        refine ⟨i + 1, by omega, by omega, by go_num, by rw [HTS.out]; congr 1; omega, ⟨?_⟩, ⟨KP.out.trans HKP.out⟩, ⟨?_⟩⟩
        · have h1 := Kd.H_kept HH.out HKT.out (fun q hq hn hs => hn (HRV.out.1 q hs.symm))
          have h2 := Kd.H_back h1 (x' := marksI (k0 + (lensII (R.take i) : Nat)) R[i].length) (okp := oki) ⟨_, rfl, HR2.out⟩ (fun _ hq => hq)
          rw [Int.toNat_natCast, HSET.out] at h2
          exact h2
        · exact KT.out.then_ HKT.out (fun q hq => .inl (HOI.out q (HRV.out.1 q hq.symm)).1)
    · have hltz : ¬ (i : Int) < (z.n : Int) := by omega
      have hiz : i = R.length := by have := HZ.out; omega
      have S2 := S.out
      rw [hiz, List.drop_length, List.append_nil, List.take_of_length_le (by rw [marksII_length]; exact Nat.le_refl _)] at S2
      have ht : R.take i = R := by rw [hiz, List.take_length]
      rw [ht]
      have SS := Aside0.mk S2
      clear S2 ht hiz
      go_wp2
      go_ret
      exact ⟨rfl, SS.out, KP.out, KT.out⟩
theorem row_kept {w w' : World} {a e : Nat} {ok S : Nat → Prop} {v : Value} {l : List Int} (u : Kd.R (Kd.int .i64) e w a ok v l) (hk : Kept w w' S) (hne : ∀ k, v.ownBlock = some k → ¬ S k) : Kd.R (Kd.int .i64) e w' a ok v l :=
  Kd.R_reok rfl (Kd.R_kept (Kd.R_tight rfl u) hk (fun k hk' => hne k hk'.symm)) (fun k hk' => u.1 k hk')
def MkI (k : Nat) : Prop := ∀ (l : List Int) (k0 : Int), l.length ≤ 1048576 → 0 ≤ k0 → k0 ≤ 1073741824 → laws_markIntS.f k l k0 = some (k0 + (l.length : Int), marksI k0 l.length)
set_option maxHeartbeats 4000000 in
theorem mark_call (k : Nat) (hm : Aside0 (MkI k)) {w : World} {a b : Nat} {x y z : Sl} {h r : List Int} {R : List (List Int)} (c s mn mx k0 : Int) (u : Sk w a b x y z h r R) (ha : a ≤ w.heap.size) (hb : b ≤ w.heap.size)
    (hk0 : 0 ≤ k0) (hkb : k0 + (h.length : Int) + (r.length : Int) + (lensII R : Nat) ≤ 1073741824) (hh : h.length ≤ 1048576) (hr : r.length ≤ 1048576) (hR : R.length ≤ 1048576) (hl : ∀ l ∈ R, l.length ≤ 1048576) :
    Calls Try.prog 15 #[.agg #[.int .i64 c, .int .i64 s, .int .i64 mn, .int .i64 mx, .slice x.A x.n x.c, .slice y.A y.n y.c, .slice z.A z.n z.c], .int .i64 k0] w fun e w' => e = .returned (.int .i64 (k0 + (h.length : Int) + (r.length : Int) + (lensII R : Nat))) ∧
      Sk w' a b x y z (marksI k0 h.length) (marksI (k0 + (h.length : Int)) r.length) (marksII (k0 + (h.length : Int) + (r.length : Int)) R) ∧ Kp w w' a b := by
  obtain ⟨ux, uy, uz⟩ := u
  have hB := Bx.new w 26 #[.int .i64 c, .int .i64 s, .int .i64 mn, .int .i64 mx, .slice x.A x.n x.c, .slice y.A y.n y.c, .slice z.A z.n z.c]
  have hb0 : Below w.heap.size w (w.alloc (.cells #[.int .i64 c, .int .i64 s, .int .i64 mn, .int .i64 mx, .slice x.A x.n x.c, .slice y.A y.n y.c, .slice z.A z.n z.c] 26)) := below_alloc (Below.refl _ _) _
  have call1 := fun W (hW : Below w.heap.size w W) => markI_call (b := b) k k0 (Kd.R_below ux hW) (fun _ hq => hq) (Nat.le_trans ha hW.size) (hm.out h k0 hh hk0 (by omega))
  have call2 := fun W (uy : Kd.R (Kd.int .i64) 3 W a (fun k => k < b ∧ some k ≠ (Value.slice x.A x.n x.c).ownBlock) (.slice y.A y.n y.c) r) (ha : a ≤ W.heap.size) => markI_call (b := b) k (k0 + (h.length : Int)) uy (fun _ hq => hq.1) ha (hm.out r (k0 + (h.length : Int)) hr (by omega) (by omega))
  have call3 := fun W (uz : Kd.S (Kd.slice 3 (Kd.int .i64)) 23 W a (fun k => k < b ∧ some k ≠ (Value.slice x.A x.n x.c).ownBlock ∧ some k ≠ (Value.slice y.A y.n y.c).ownBlock) (.slice z.A z.n z.c) R) (ha : a ≤ W.heap.size) => markII_call (b := b) k ⟨fun l k0 h1 h2 h3 => hm.out l k0 h1 h2 h3⟩ (k0 + (h.length : Int) + (r.length : Int)) uz (fun _ hq => hq.1) ha (by omega) hkb hR hl
  have UX := Aside0.mk ux
  have UY := Aside0.mk uy
  have UZ := Aside0.mk uz
  have HBX := Aside0.mk hB
  have HB0 := Aside0.mk hb0
  have HBB := Aside0.mk hb
  have HA := Aside0.mk ha
  have K1 := Aside0.mk call1
  have K2 := Aside0.mk call2
  have K3 := Aside0.mk call3
  clear ux uy uz hB hb0 hb ha call1 call2 call3 hkb hh hr hR hl hk0
  go_enter Try.func15, Try.ntmps15
  go_wp2_with fail
  refine (K1.out _ HB0.out).mono ?_
  rintro e w1 ⟨rfl, hr1, hkp1, hkt1⟩
  have bx1 := Bx.kp HBX.out hkp1 (.inr HBB.out)
  have y1 := row_kept (Kd.R_below UY.out HB0.out) hkt1 (fun q hq hs => (UY.out.1 q hq).2 hs)
  have z1 := Kd.S_kept (Kd.S_below UZ.out HB0.out) hkt1 (fun q hq hs => hq.2.1 hs)
  have cells := bx1.cells
  obtain ⟨_, _, _, _, _, c5, _⟩ := cells
  have X1 := Aside0.mk hr1
  have KP1 := Aside0.mk hkp1
  have BX1 := Aside0.mk bx1
  have Y1 := Aside0.mk y1
  have Z1 := Aside0.mk z1
  clear hr1 hkp1 hkt1 bx1 y1 z1
  go_wp2_with fail
  clear c5
  refine (K2.out _ Y1.out (Nat.le_trans HA.out (Nat.le_trans HB0.out.size KP1.out.kept.1))).mono ?_
  rintro e w2 ⟨rfl, hr2, hkp2, hkt2⟩
  have bx2 := Bx.kp BX1.out hkp2 (.inr HBB.out)
  have x2 := row_kept X1.out hkt2 (fun q hq hs => (UY.out.1 q hs.symm).2 hq.symm)
  have z2 := Kd.S_kept Z1.out hkt2 (fun q hq hs => hq.2.2 hs)
  have cells := bx2.cells
  obtain ⟨_, _, _, _, _, _, c6⟩ := cells
  have X2 := Aside0.mk x2
  have KP2 := Aside0.mk (KP1.out.trans hkp2)
  have BX2 := Aside0.mk bx2
  have Y2 := Aside0.mk hr2
  have Z2 := Aside0.mk z2
  clear hr2 hkp2 hkt2 bx2 x2 z2
  go_wp2_with fail
  clear c6
  refine (K3.out _ Z2.out (Nat.le_trans HA.out (Nat.le_trans HB0.out.size KP2.out.kept.1))).mono ?_
  rintro e w3 ⟨rfl, hr3, hkp3, hkt3⟩
  have x3 := row_kept X2.out hkt3 (fun q hq hs => hs.2.1 hq.symm)
  have y3 := row_kept Y2.out hkt3 (fun q hq hs => hs.2.2 hq.symm)
  have S3 := Aside0.mk (show Sk w3 a b x y z _ _ _ from ⟨x3, y3, hr3⟩)
  have KP3 := Aside0.mk (((Kp.of HB0.out).trans KP2.out).trans hkp3)
  clear hr3 hkp3 hkt3 x3 y3
  go_wp2
  go_ret
  exact ⟨rfl, S3.out, KP3.out⟩
theorem mark_callM (k : Nat) (hm : Aside0 (MkI k)) {w : World} {a b : Nat} {x y z : Sl} {h r : List Int} {R : List (List Int)} (c s mn mx k0 M : Int) (u : Sk w a b x y z h r R) (ha : a ≤ w.heap.size) (hb : b ≤ w.heap.size)
    (hk0 : 0 ≤ k0) (lm : Aside0 (k0 + (h.length : Int) + (r.length : Int) + (lensII R : Nat) = M ∧ M ≤ 1073741824 ∧ h.length ≤ 1048576 ∧ r.length ≤ 1048576 ∧ R.length ≤ 1048576 ∧ ∀ l ∈ R, l.length ≤ 1048576)) :
    Calls Try.prog 15 #[.agg #[.int .i64 c, .int .i64 s, .int .i64 mn, .int .i64 mx, .slice x.A x.n x.c, .slice y.A y.n y.c, .slice z.A z.n z.c], .int .i64 k0] w fun e w' => e = .returned (.int .i64 M) ∧
      Sk w' a b x y z (marksI k0 h.length) (marksI (k0 + (h.length : Int)) r.length) (marksII (k0 + (h.length : Int) + (r.length : Int)) R) ∧ Kp w w' a b := by
  obtain ⟨h1, h2, h3, h4, h5, h6⟩ := lm.out
  have := mark_call k hm c s mn mx k0 u ha hb hk0 (by omega) h3 h4 h5 h6
  rw [h1] at this
  exact this
theorem rdR_get {xs : List (List Int)} {n : Nat} (h : n < xs.length) : rd_L1 xs (n : Int) = xs[n] := by
  unfold rd_L1
  rw [Int.toNat_natCast, List.getD_eq_getElem?_getD, List.getElem?_eq_getElem h]
  rfl
theorem markI_at (a : Int) (n : Nat) (ha : 0 ≤ a) (hb : a ≤ 1073741824) (hn : n ≤ 1048576) (d : Nat) : ∀ (k i : Nat) (x3 : List Int), d < k → i + d = n → x3.length = n → x3.take i = (marksI a n).take i →
    laws_markIntS.l0 k x3 (a + (i : Int)) (i : Int) = some (a + (n : Int), marksI a n) := by
  induction d with
  | zero =>
    intro k i x3 hk hi hl ht
    obtain ⟨k, rfl⟩ : ∃ m, k = m + 1 := ⟨k - 1, by omega⟩
    simp only [laws_markIntS.l0]
    rw [if_neg (by omega), take_all (ys := marksI a n) (by rw [hl, marksI_length]) (by rw [marksI_length]; omega) ht, show i = n by omega]
  | succ d ih =>
    intro k i x3 hk hi hl ht
    obtain ⟨k, rfl⟩ : ∃ m, k = m + 1 := ⟨k - 1, by omega⟩
    simp only [laws_markIntS.l0]
    rw [if_pos (by omega), if_pos (by omega), w64 (x := (i : Int) + 1) (by omega) (by omega), w64 (x := a + (i : Int) + 1) (by omega) (by omega), Int.toNat_natCast]
    have e := ih k (i + 1) (x3.set i (a + (i : Int))) (by omega) (by omega) (by simp [hl]) (by
      have hm : a + (i : Int) = (marksI a n)[i]'(by rw [marksI_length]; omega) := by rw [marksI_get]
      rw [hm]
      exact take_set (ys := marksI a n) (by rw [hl, marksI_length]) (by rw [marksI_length]; omega) ht)
    rw [show (i : Int) + 1 = ((i + 1 : Nat) : Int) by omega, show a + (i : Int) + 1 = a + ((i + 1 : Nat) : Int) by omega]
    exact e
theorem mkI (k : Nat) (hk : 1048577 ≤ k) : MkI k := by
  intro l k0 hl h0 h1
  have := markI_at k0 l.length h0 h1 hl l.length k 0 l (by omega) (by omega) rfl (by simp)
  simpa [laws_markIntS.f] using this
theorem heldI_at (a : Int) (n : Nat) (ha : 0 ≤ a) (hb : a ≤ 1073741824) (hn : n ≤ 1048576) (d : Nat) : ∀ i : Nat, i + d = n →
    Ev (fun k => laws_heldIntS.l0 k (marksI a n) (a + (i : Int)) (i : Int)) (a + (n : Int)) := by
  induction d with
  | zero =>
    intro i hi
    refine Ev.step (fun _ => rfl) ?_
    simp only [laws_heldIntS.l0]
    exact ev_neg (by rw [marksI_length]; omega) (ev_some (by rw [show i = n by omega]))
  | succ d ih =>
    intro i hi
    refine Ev.step (fun _ => rfl) ?_
    simp only [laws_heldIntS.l0]
    have hl := marksI_length a n
    refine ev_pos (by omega) (ev_pos (by omega) (ev_pos (by rw [rd_get (show i < (marksI a n).length by omega), marksI_get]) ?_))
    rw [w64 (x := (i : Int) + 1) (by omega) (by omega), w64 (x := a + (i : Int) + 1) (by omega) (by omega), show (i : Int) + 1 = ((i + 1 : Nat) : Int) by omega, show a + (i : Int) + 1 = a + ((i + 1 : Nat) : Int) by omega]
    exact ih (i + 1) (by omega)
theorem heldI_ev (a : Int) (n : Nat) (ha : 0 ≤ a) (hb : a ≤ 1073741824) (hn : n ≤ 1048576) : Ev (fun k => laws_heldIntS.f k (marksI a n) a) (a + (n : Int)) := by
  have := heldI_at a n ha hb hn n 0 (by omega)
  simpa [laws_heldIntS.f] using this
theorem heldII_at (a : Int) (R : List (List Int)) (ha : 0 ≤ a) (hb : a + (lensII R : Nat) ≤ 1073741824) (hR : R.length ≤ 1048576) (hl : ∀ l ∈ R, l.length ≤ 1048576) (d : Nat) : ∀ i : Nat, i + d = R.length →
    Ev (fun k => laws_heldIntSS.l0 k (marksII a R) (a + (lensII (R.take i) : Nat)) (i : Int)) (a + (lensII R : Nat)) := by
  induction d with
  | zero =>
    intro i hi
    refine Ev.step (fun _ => rfl) ?_
    simp only [laws_heldIntSS.l0]
    exact ev_neg (by rw [marksII_length]; omega) (ev_some (by rw [show i = R.length by omega, List.take_length]))
  | succ d ih =>
    intro i hi
    refine Ev.step (fun _ => rfl) ?_
    simp only [laws_heldIntSS.l0]
    have hlen := marksII_length R a
    have hiR : i < R.length := by omega
    have hle := lensII_le R i
    have ht := lensII_take R i hiR
    have hg : rd_L1 (marksII a R) (i : Int) = marksI (a + (lensII (R.take i) : Nat)) R[i].length := by rw [rdR_get (show i < (marksII a R).length by omega), marksII_get R a i hiR]
    rw [hg, wsucc (by omega)]
    refine ev_pos (by omega) (ev_pos (by omega) (Ev.bind (heldI_ev (a + (lensII (R.take i) : Nat)) R[i].length (by omega) (by omega) (hl _ (List.getElem_mem hiR))) (ev_neg (by omega) ?_)))
    rw [show a + (lensII (R.take i) : Nat) + (R[i].length : Int) = a + (lensII (R.take (i + 1)) : Nat) by omega]
    exact ih (i + 1) (by omega)
theorem heldSketch_ev (c s mn mx a : Int) (n m : Nat) (R : List (List Int)) (ha : 0 ≤ a) (hb : a + (n : Int) + (m : Int) + (lensII R : Nat) ≤ 1073741824) (hn : n ≤ 1048576) (hm : m ≤ 1048576) (hR : R.length ≤ 1048576) (hl : ∀ l ∈ R, l.length ≤ 1048576) :
    Ev (fun k => laws_heldSketch.f k c s mn mx (marksI a n) (marksI (a + (n : Int)) m) (marksII (a + (n : Int) + (m : Int)) R) a) (a + (n : Int) + (m : Int) + (lensII R : Nat)) := by
  unfold laws_heldSketch.f
  refine Ev.bind (heldI_ev a n ha (by omega) hn) (ev_neg (by omega) (Ev.bind (heldI_ev (a + (n : Int)) m (by omega) (by omega) hm) (ev_neg (by omega) ?_)))
  have := heldII_at (a + (n : Int) + (m : Int)) R (by omega) hb hR hl R.length 0 (by omega)
  rw [show lensII (R.take 0) = 0 from by simp [lensII]] at this
  exact Ev.bind (by simpa [laws_heldIntSS.f] using this) (ev_neg (by omega) (ev_some rfl))
theorem eq_callD (k : Nat) {w : World} {x y z x' y' z' : Sl} {h r : List Int} {R : List (List Int)} (c s mn mx : Int) (u : Rd w x y z h r R) (u' : Rd w x' y' z' h r R) (he : laws_eqSketch.f k c s mn mx h r R c s mn mx h r R = some true) :
    Calls Try.prog 12 #[.agg #[.int .i64 c, .int .i64 s, .int .i64 mn, .int .i64 mx, .slice x.A x.n x.c, .slice y.A y.n y.c, .slice z.A z.n z.c], .agg #[.int .i64 c, .int .i64 s, .int .i64 mn, .int .i64 mx, .slice x'.A x'.n x'.c, .slice y'.A y'.n y'.c, .slice z'.A z'.n z'.c]] w fun e w' => e = .returned (.bool true) ∧ Below w.heap.size w w' := by
  rw [u.e4, u.e5, u.e6, u'.e4, u'.e5, u'.e6]
  exact laws_eqSketch.calls k c s mn mx _ _ h _ _ r _ _ R c s mn mx _ _ h _ _ r _ _ R true w u.C4 u.l4 u.C5 u.l5 u.C6 u.l6 u'.C4 u'.l4 u'.C5 u'.l5 u'.C6 u'.l6 ⟨rfl⟩ he
theorem held_callD (k : Nat) {w : World} {x y z : Sl} {h r : List Int} {R : List (List Int)} (c s mn mx k0 k1 : Int) (u : Rd w x y z h r R) (he : laws_heldSketch.f k c s mn mx h r R k0 = some k1) :
    Calls Try.prog 16 #[.agg #[.int .i64 c, .int .i64 s, .int .i64 mn, .int .i64 mx, .slice x.A x.n x.c, .slice y.A y.n y.c, .slice z.A z.n z.c], .int .i64 k0] w fun e w' => e = .returned (.int .i64 k1) ∧ Below w.heap.size w w' := by
  rw [u.e4, u.e5, u.e6]
  exact laws_heldSketch.calls k c s mn mx _ _ h _ _ r _ _ R k0 k1 w u.C4 u.l4 u.C5 u.l5 u.C6 u.l6 he
theorem sz_callD (k : Nat) {w : World} {x y z : Sl} {h r : List Int} {R : List (List Int)} (c s mn mx k0 k1 : Int) (u : Rd w x y z h r R) (he : laws_szSketch.f k c s mn mx h r R k0 = some k1) :
    Calls Try.prog 17 #[.agg #[.int .i64 c, .int .i64 s, .int .i64 mn, .int .i64 mx, .slice x.A x.n x.c, .slice y.A y.n y.c, .slice z.A z.n z.c], .int .i64 k0] w fun e w' => e = .returned (.int .i64 k1) ∧ Below w.heap.size w w' := by
  rw [u.e4, u.e5, u.e6]
  exact laws_szSketch.calls k c s mn mx _ _ h _ _ r _ _ R k0 k1 w u.C4 u.l4 u.C5 u.l5 u.C6 u.l6 he
theorem to_callD (k : Nat) {w : World} {x y z : Sl} {h r : List Int} {R : List (List Int)} (c s mn mx : Int) (u : Rd w x y z h r R) (he : laws_toSketch.f k c s mn mx h r R = some (c, s, mn, mx, h, r, R)) :
    Calls Try.prog 19 #[.agg #[.int .i64 c, .int .i64 s, .int .i64 mn, .int .i64 mx, .slice x.A x.n x.c, .slice y.A y.n y.c, .slice z.A z.n z.c]] w fun e w' => ∃ (x' y' z' : Sl) (a b : Nat), e = .returned (.agg #[.int .i64 c, .int .i64 s, .int .i64 mn, .int .i64 mx, .slice x'.A x'.n x'.c, .slice y'.A y'.n y'.c, .slice z'.A z'.n z'.c]) ∧ Sk w' a b x' y' z' h r R ∧ Made w w' a b ∧ Below w.heap.size w w' := by
  rw [u.e4, u.e5, u.e6]
  refine (laws_toSketch.calls k c s mn mx _ _ h _ _ r _ _ R c s mn mx h r R w u.C4 u.l4 u.C5 u.l5 u.C6 u.l6 he).mono ?_
  rintro e w' ⟨v4, v5, v6, rfl, h4, h5, h6, hb⟩
  obtain ⟨x', y', z', rfl, rfl, rfl, hs⟩ := Sk.of h4 h5 h6 (fun _ hk => hk) (fun _ hk => hk)
  exact ⟨x', y', z', _, _, rfl, hs, ⟨Nat.le_refl _, hb.size, Nat.le_refl _⟩, hb⟩
theorem specM_callD (k : Nat) {w : World} {x y z x' y' z' : Sl} {h r h' r' : List Int} {R R' : List (List Int)} (c s lo hi c' s' lo' hi' c1 s1 lo1 hi1 : Int) (h1 r1 : List Int) (R1 : List (List Int)) (t : Bool) (u : Rd w x y z h r R) (u' : Rd w x' y' z' h' r' R') (he : spec_Merge.f k c s lo hi h r R c' s' lo' hi' h' r' R' = some (c1, s1, lo1, hi1, h1, r1, R1, t)) :
    Calls Try.prog 18 #[.agg #[.int .i64 c, .int .i64 s, .int .i64 lo, .int .i64 hi, .slice x.A x.n x.c, .slice y.A y.n y.c, .slice z.A z.n z.c], .agg #[.int .i64 c', .int .i64 s', .int .i64 lo', .int .i64 hi', .slice x'.A x'.n x'.c, .slice y'.A y'.n y'.c, .slice z'.A z'.n z'.c]] w fun e w' => ∃ (x1 y1 z1 : Sl) (a b : Nat), e = .returned (.tuple #[.agg #[.int .i64 c1, .int .i64 s1, .int .i64 lo1, .int .i64 hi1, .slice x1.A x1.n x1.c, .slice y1.A y1.n y1.c, .slice z1.A z1.n z1.c], .bool t]) ∧ Rk w' a b x1 y1 z1 h1 r1 R1 ∧ Made w w' a b ∧ Below w.heap.size w w' := by
  rw [u.e4, u.e5, u.e6, u'.e4, u'.e5, u'.e6]
  refine (spec_Merge.calls k c s lo hi _ _ h _ _ r _ _ R c' s' lo' hi' _ _ h' _ _ r' _ _ R' c1 s1 lo1 hi1 h1 r1 R1 t w u.C4 u.l4 u.C5 u.l5 u.C6 u.l6 u'.C4 u'.l4 u'.C5 u'.l5 u'.C6 u'.l6 he).mono ?_
  rintro e w' ⟨v4, v5, v6, rfl, h4, h5, h6, hb⟩
  obtain ⟨x1, y1, z1, rfl, rfl, rfl, hs⟩ := Rk.of h4 h5 h6 (fun _ hk => hk.1)
  exact ⟨x1, y1, z1, _, _, rfl, hs, ⟨Nat.le_refl _, hb.size, Nat.le_refl _⟩, hb⟩

theorem implM_callD (k : Nat) {w : World} {x y z x' y' z' : Sl} {h r h' r' : List Int} {R R' : List (List Int)} (c s lo hi c' s' lo' hi' c1 s1 lo1 hi1 : Int) (h1 r1 : List Int) (R1 : List (List Int)) (t : Bool) (u : Rd w x y z h r R) (u' : Rd w x' y' z' h' r' R') (he : impl_Merge.f k c s lo hi h r R c' s' lo' hi' h' r' R' = some (c1, s1, lo1, hi1, h1, r1, R1, t)) :
    Calls Try.prog 20 #[.agg #[.int .i64 c, .int .i64 s, .int .i64 lo, .int .i64 hi, .slice x.A x.n x.c, .slice y.A y.n y.c, .slice z.A z.n z.c], .agg #[.int .i64 c', .int .i64 s', .int .i64 lo', .int .i64 hi', .slice x'.A x'.n x'.c, .slice y'.A y'.n y'.c, .slice z'.A z'.n z'.c]] w fun e w' => ∃ (x1 y1 z1 : Sl) (a b : Nat), e = .returned (.tuple #[.agg #[.int .i64 c1, .int .i64 s1, .int .i64 lo1, .int .i64 hi1, .slice x1.A x1.n x1.c, .slice y1.A y1.n y1.c, .slice z1.A z1.n z1.c], .bool t]) ∧ Sk w' a b x1 y1 z1 h1 r1 R1 ∧ Made w w' a b ∧ Below w.heap.size w w' := by
  rw [u.e4, u.e5, u.e6, u'.e4, u'.e5, u'.e6]
  refine (impl_Merge.calls k c s lo hi _ _ h _ _ r _ _ R c' s' lo' hi' _ _ h' _ _ r' _ _ R' c1 s1 lo1 hi1 h1 r1 R1 t w u.C4 u.l4 u.C5 u.l5 u.C6 u.l6 u'.C4 u'.l4 u'.C5 u'.l5 u'.C6 u'.l6 he).mono ?_
  rintro e w' ⟨v4, v5, v6, rfl, h4, h5, h6, hb⟩
  obtain ⟨x1, y1, z1, rfl, rfl, rfl, hs⟩ := Sk.of h4 h5 h6 (fun _ hk => hk) (fun _ hk => hk)
  exact ⟨x1, y1, z1, _, _, rfl, hs, ⟨Nat.le_refl _, hb.size, Nat.le_refl _⟩, hb⟩
theorem toIntS_at (x0 : List Int) (hn : x0.length ≤ 1048576) (d : Nat) : ∀ (i : Nat) (x3 : List Int), i + d = x0.length → x3.length = x0.length → x3.take i = x0.take i →
    Ev (fun k => laws_toIntS.l0 k x0 x3 (i : Int)) x0 := by
  induction d with
  | zero =>
    intro i x3 hi hl ht
    refine Ev.step (fun _ => rfl) ?_
    simp only [laws_toIntS.l0]
    refine ev_neg (by omega) (ev_some (take_all hl (by omega) ht))
  | succ d ih =>
    intro i x3 hi hl ht
    refine Ev.step (fun _ => rfl) ?_
    simp only [laws_toIntS.l0]
    refine ev_pos (by omega) (ev_pos (by omega) (ev_pos (by omega) ?_))
    rw [wsucc (by omega), rd_get (show i < x0.length by omega), Int.toNat_natCast]
    exact ih (i + 1) _ (by omega) (by simp [hl]) (take_set hl (by omega) ht)
theorem toIntS_ev (x0 : List Int) (hn : x0.length ≤ 1048576) : Ev (fun k => laws_toIntS.f k x0) x0 := by
  unfold laws_toIntS.f
  refine ev_pos (by omega) (ev_pos (by omega) ?_)
  exact toIntS_at x0 hn x0.length 0 _ (by omega) (by simp) (by simp)
theorem eqIntS_at (x0 : List Int) (hn : x0.length ≤ 1048576) (d : Nat) : ∀ (i : Nat), i + d = x0.length →
    Ev (fun k => laws_eqIntS.l0 k x0 x0 (i : Int)) true := by
  induction d with
  | zero =>
    intro i hi
    refine Ev.step (fun _ => rfl) ?_
    simp only [laws_eqIntS.l0]
    refine ev_neg (by omega) (ev_some rfl)
  | succ d ih =>
    intro i hi
    refine Ev.step (fun _ => rfl) ?_
    simp only [laws_eqIntS.l0]
    refine ev_pos (by omega) (ev_pos (by omega) (ev_pos (by omega) (ev_pos (by trivial) ?_)))
    rw [wsucc (by omega)]
    exact ih (i + 1) (by omega)
theorem eqIntS_ev (x0 : List Int) (hn : x0.length ≤ 1048576) : Ev (fun k => laws_eqIntS.f k x0 x0) true := by
  unfold laws_eqIntS.f
  exact ev_pos (by trivial) (eqIntS_at x0 hn x0.length 0 (by omega))
theorem toIntSS_at (x0 : List (List Int)) (hn : x0.length ≤ 1048576) (hx : ∀ x ∈ x0, x.length ≤ 1048576) (d : Nat) : ∀ (i : Nat) (x3 : List (List Int)), i + d = x0.length → x3.length = x0.length → x3.take i = x0.take i →
    Ev (fun k => laws_toIntSS.l0 k x0 x3 (i : Int)) x0 := by
  induction d with
  | zero =>
    intro i x3 hi hl ht
    refine Ev.step (fun _ => rfl) ?_
    simp only [laws_toIntSS.l0]
    refine ev_neg (by omega) (ev_some (take_all hl (by omega) ht))
  | succ d ih =>
    intro i x3 hi hl ht
    refine Ev.step (fun _ => rfl) ?_
    simp only [laws_toIntSS.l0]
    rw [wsucc (by omega), rdR_get (show i < x0.length by omega), Int.toNat_natCast]
    refine ev_pos (by omega) (ev_pos (by omega) (Ev.bind (toIntS_ev _ (hx _ (List.getElem_mem (by omega)))) (ev_pos (by omega) ?_)))
    exact ih (i + 1) _ (by omega) (by simp [hl]) (take_set hl (by omega) ht)
theorem toIntSS_ev (x0 : List (List Int)) (hn : x0.length ≤ 1048576) (hx : ∀ x ∈ x0, x.length ≤ 1048576) : Ev (fun k => laws_toIntSS.f k x0) x0 := by
  unfold laws_toIntSS.f
  refine ev_pos (by omega) (ev_pos (by omega) ?_)
  exact toIntSS_at x0 hn hx x0.length 0 _ (by omega) (by simp) (by simp)
theorem toSketch_ev (c s mn mx : Int) (h r : List Int) (R : List (List Int)) (hh : h.length ≤ 1048576) (hr : r.length ≤ 1048576) (hR : R.length ≤ 1048576) (hx : ∀ x ∈ R, x.length ≤ 1048576) :
    Ev (fun k => laws_toSketch.f k c s mn mx h r R) (c, s, mn, mx, h, r, R) := by
  unfold laws_toSketch.f
  exact Ev.bind (toIntS_ev h hh) (Ev.bind (toIntS_ev r hr) (Ev.bind (toIntSS_ev R hR hx) (ev_some rfl)))
theorem szIntS_is (l0 : List Int) (a : Int) (h0 : 0 ≤ a) (h1 : a ≤ 1048576) (hl : l0.length ≤ 9223372036854775807) : laws_szIntS.f l0 a = some (if a < l0.length then -1 else a - l0.length) := by
  unfold laws_szIntS.f
  rw [w64 (by omega) (by omega)]
  by_cases h : a < l0.length
  · rw [if_pos (by omega), if_pos h]
  · rw [if_neg (by omega), if_neg h]
theorem szIntSS_at (R : List (List Int)) (hR : R.length ≤ 1048576) (hx : ∀ x ∈ R, x.length ≤ 9223372036854775807) (d : Nat) : ∀ (i : Nat) (a : Int), i + d = R.length → 0 ≤ a → a ≤ 1048576 →
    ∃ v, Ev (fun k => laws_szIntSS.l0 k R a (i : Int)) v ∧ v ≤ a ∧ (0 ≤ v → ∀ x ∈ R.drop i, x.length ≤ 1048576) := by
  induction d with
  | zero =>
    intro i a hi h0 h1
    refine ⟨a, Ev.step (fun _ => rfl) ?_, Int.le_refl _, fun _ x hxx => ?_⟩
    · simp only [laws_szIntSS.l0]
      exact ev_neg (by omega) (ev_some rfl)
    · rw [List.drop_of_length_le (by omega)] at hxx
      cases hxx
  | succ d ih =>
    intro i a hi h0 h1
    have hg : i < R.length := by omega
    have hb := hx R[i] (List.getElem_mem hg)
    by_cases hs : a < (R[i]).length
    · refine ⟨-1, Ev.step (fun _ => rfl) ?_, by omega, fun h => by omega⟩
      simp only [laws_szIntSS.l0]
      rw [rdR_get hg]
      refine ev_pos (by omega) (ev_pos (by omega) (ev_bind0 (szIntS_is _ _ h0 h1 hb) ?_))
      rw [if_pos hs]
      exact ev_pos (by omega) (ev_some rfl)
    · obtain ⟨v, hv, hle, hall⟩ := ih (i + 1) (a - (R[i]).length) (by omega) (by omega) (by omega)
      refine ⟨v, Ev.step (fun _ => rfl) ?_, by omega, fun h x hxx => ?_⟩
      · simp only [laws_szIntSS.l0]
        rw [rdR_get hg, wsucc (by omega)]
        refine ev_pos (by omega) (ev_pos (by omega) (ev_bind0 (szIntS_is _ _ h0 h1 hb) ?_))
        rw [if_neg hs]
        exact ev_neg (by omega) hv
      · rw [List.drop_eq_getElem_cons hg] at hxx
        rcases List.mem_cons.1 hxx with rfl | hxx
        · omega
        · exact hall h x hxx
theorem szSketch_ev (c s mn mx : Int) (h r : List Int) (R : List (List Int)) (a : Int) (h0 : 0 ≤ a) (h1 : a ≤ 1048576) (hh : h.length ≤ 9223372036854775807) (hr : r.length ≤ 9223372036854775807) (hR : R.length ≤ 9223372036854775807) (hx : ∀ x ∈ R, x.length ≤ 9223372036854775807) :
    ∃ v, Ev (fun k => laws_szSketch.f k c s mn mx h r R a) v ∧ v ≤ a ∧ (0 ≤ v → h.length ≤ 1048576 ∧ r.length ≤ 1048576 ∧ R.length ≤ 1048576 ∧ ∀ x ∈ R, x.length ≤ 1048576) := by
  by_cases a1 : a < h.length
  · refine ⟨-1, ?_, by omega, fun h => by omega⟩
    unfold laws_szSketch.f
    refine ev_bind0 (szIntS_is h a h0 h1 hh) ?_
    rw [if_pos a1]
    exact ev_pos (by omega) (ev_some rfl)
  by_cases a2 : a - h.length < r.length
  · refine ⟨-1, ?_, by omega, fun h => by omega⟩
    unfold laws_szSketch.f
    refine ev_bind0 (szIntS_is h a h0 h1 hh) ?_
    rw [if_neg a1]
    refine ev_neg (by omega) (ev_bind0 (szIntS_is r _ (by omega) (by omega) hr) ?_)
    rw [if_pos a2]
    exact ev_pos (by omega) (ev_some rfl)
  by_cases a3 : a - h.length - r.length < R.length
  · refine ⟨-1, ?_, by omega, fun h => by omega⟩
    unfold laws_szSketch.f
    refine ev_bind0 (szIntS_is h a h0 h1 hh) ?_
    rw [if_neg a1]
    refine ev_neg (by omega) (ev_bind0 (szIntS_is r _ (by omega) (by omega) hr) ?_)
    rw [if_neg a2]
    refine ev_neg (by omega) (Ev.bind (a := -1) ?_ (ev_pos (by omega) (ev_some rfl)))
    unfold laws_szIntSS.f
    have e : wrap64 (a - h.length - r.length - R.length) = a - h.length - r.length - R.length := w64 (by omega) (by omega)
    rw [e]
    clear e
    exact ev_pos (by omega) (ev_some rfl)
  obtain ⟨v, hv, hle, hall⟩ := szIntSS_at R (by omega) hx R.length 0 (a - h.length - r.length - R.length) (by omega) (by omega) (by omega)
  rw [List.drop_zero] at hall
  have hin : Ev (fun k => laws_szIntSS.f k R (a - h.length - r.length)) v := by
    unfold laws_szIntSS.f
    have e : wrap64 (a - h.length - r.length - R.length) = a - h.length - r.length - R.length := w64 (by omega) (by omega)
    rw [e]
    clear e
    exact ev_neg (by omega) hv
  have hout : ∀ u, Ev (fun _ => if v < 0 then some (-1) else some v) u → Ev (fun k => laws_szSketch.f k c s mn mx h r R a) u := by
    intro u hu
    unfold laws_szSketch.f
    refine ev_bind0 (szIntS_is h a h0 h1 hh) ?_
    rw [if_neg a1]
    refine ev_neg (by omega) (ev_bind0 (szIntS_is r _ (by omega) (by omega) hr) ?_)
    rw [if_neg a2]
    exact ev_neg (by omega) (Ev.bind hin hu)
  by_cases hneg : v < 0
  · exact ⟨-1, hout _ (ev_pos hneg (ev_some rfl)), by omega, fun h => by omega⟩
  · exact ⟨v, hout _ (ev_neg hneg (ev_some rfl)), by omega, fun h => ⟨by omega, by omega, by omega, hall h⟩⟩
theorem eqIntSS_at (x0 : List (List Int)) (hn : x0.length ≤ 1048576) (hx : ∀ x ∈ x0, x.length ≤ 1048576) (d : Nat) : ∀ (i : Nat), i + d = x0.length →
    Ev (fun k => laws_eqIntSS.l0 k x0 x0 (i : Int)) true := by
  induction d with
  | zero =>
    intro i hi
    refine Ev.step (fun _ => rfl) ?_
    simp only [laws_eqIntSS.l0]
    refine ev_neg (by omega) (ev_some rfl)
  | succ d ih =>
    intro i hi
    refine Ev.step (fun _ => rfl) ?_
    simp only [laws_eqIntSS.l0]
    rw [wsucc (by omega), rdR_get (show i < x0.length by omega)]
    refine ev_pos (by omega) (ev_pos (by omega) (ev_pos (by omega) (Ev.bind (eqIntS_ev _ (hx _ (List.getElem_mem (by omega)))) (ev_pos (by trivial) ?_))))
    exact ih (i + 1) (by omega)
theorem eqIntSS_ev (x0 : List (List Int)) (hn : x0.length ≤ 1048576) (hx : ∀ x ∈ x0, x.length ≤ 1048576) : Ev (fun k => laws_eqIntSS.f k x0 x0) true := by
  unfold laws_eqIntSS.f
  exact ev_pos (by trivial) (eqIntSS_at x0 hn hx x0.length 0 (by omega))
theorem eqSketch_ev (c s mn mx : Int) (h r : List Int) (R : List (List Int)) (hh : h.length ≤ 1048576) (hr : r.length ≤ 1048576) (hR : R.length ≤ 1048576) (hx : ∀ x ∈ R, x.length ≤ 1048576) :
    Ev (fun k => laws_eqSketch.f k c s mn mx h r R c s mn mx h r R) true := by
  unfold laws_eqSketch.f
  refine ev_pos (by trivial) (ev_pos (by trivial) (ev_pos (by trivial) (ev_pos (by trivial) ?_)))
  exact Ev.bind (eqIntS_ev h hh) (ev_pos (by trivial) (Ev.bind (eqIntS_ev r hr) (ev_pos (by trivial) (Ev.bind (eqIntSS_ev R hR hx) (ev_pos (by trivial) (ev_some rfl))))))
theorem lensII_drop (R : List (List Int)) (i : Nat) (h : i < R.length) : lensII (R.drop i) = R[i].length + lensII (R.drop (i + 1)) := by
  rw [List.drop_eq_getElem_cons h]
  rfl
theorem szIntSS_sum (R : List (List Int)) (hR : R.length ≤ 1048576) (hx : ∀ x ∈ R, x.length ≤ 9223372036854775807) (d : Nat) : ∀ (i : Nat) (a : Int), i + d = R.length → 0 ≤ a → a ≤ 1048576 →
    ∃ v, Ev (fun k => laws_szIntSS.l0 k R a (i : Int)) v ∧ (0 ≤ v → (lensII (R.drop i) : Int) + v ≤ a) := by
  induction d with
  | zero =>
    intro i a hi h0 h1
    refine ⟨a, Ev.step (fun _ => rfl) ?_, fun _ => ?_⟩
    · simp only [laws_szIntSS.l0]
      exact ev_neg (by omega) (ev_some rfl)
    · rw [List.drop_of_length_le (by omega)]
      simp [lensII]
  | succ d ih =>
    intro i a hi h0 h1
    have hg : i < R.length := by omega
    have hb := hx R[i] (List.getElem_mem hg)
    by_cases hs : a < (R[i]).length
    · refine ⟨-1, Ev.step (fun _ => rfl) ?_, fun h => by omega⟩
      simp only [laws_szIntSS.l0]
      rw [rdR_get hg]
      refine ev_pos (by omega) (ev_pos (by omega) (ev_bind0 (szIntS_is _ _ h0 h1 hb) ?_))
      rw [if_pos hs]
      exact ev_pos (by omega) (ev_some rfl)
    · obtain ⟨v, hv, hall⟩ := ih (i + 1) (a - (R[i]).length) (by omega) (by omega) (by omega)
      refine ⟨v, Ev.step (fun _ => rfl) ?_, fun h => ?_⟩
      · simp only [laws_szIntSS.l0]
        rw [rdR_get hg, wsucc (by omega)]
        refine ev_pos (by omega) (ev_pos (by omega) (ev_bind0 (szIntS_is _ _ h0 h1 hb) ?_))
        rw [if_neg hs]
        exact ev_neg (by omega) hv
      · have := hall h
        have := lensII_drop R i hg
        omega
theorem ev_one {α : Type} {g : Nat → Option α} {a b : α} (h : Ev g a) (k : Ev g b) : a = b := by
  obtain ⟨K, hK⟩ := h
  obtain ⟨L, hL⟩ := k
  have h1 := hK (K + L) (by omega)
  rw [hL (K + L) (by omega)] at h1
  exact (Option.some.inj h1).symm
theorem szSketch_all (c s mn mx : Int) (h r : List Int) (R : List (List Int)) (a : Int) (h0 : 0 ≤ a) (h1 : a ≤ 1048576) (hh : h.length ≤ 9223372036854775807) (hr : r.length ≤ 9223372036854775807) (hR : R.length ≤ 9223372036854775807) (hx : ∀ x ∈ R, x.length ≤ 9223372036854775807) :
    ∃ v, Ev (fun k => laws_szSketch.f k c s mn mx h r R a) v ∧ v ≤ a ∧ (0 ≤ v → (h.length ≤ 1048576 ∧ r.length ≤ 1048576 ∧ R.length ≤ 1048576 ∧ ∀ x ∈ R, x.length ≤ 1048576) ∧ (h.length : Int) + r.length + lensII R + v ≤ a) := by
  obtain ⟨v, hv, hle, hall⟩ := szSketch_ev c s mn mx h r R a h0 h1 hh hr hR hx
  refine ⟨v, hv, hle, fun hp => ⟨hall hp, ?_⟩⟩
  obtain ⟨b1, b2, b3, b4⟩ := hall hp
  have key : ∃ u, Ev (fun k => laws_szSketch.f k c s mn mx h r R a) u ∧ (0 ≤ u → (h.length : Int) + r.length + lensII R + u ≤ a) := by
    unfold laws_szSketch.f
    by_cases g1 : a < h.length
    · refine ⟨-1, ev_bind0 (szIntS_is h a h0 h1 hh) ?_, fun h => by omega⟩
      rw [if_pos g1]
      exact ev_pos (by omega) (ev_some rfl)
    · by_cases g2 : a - h.length < r.length
      · refine ⟨-1, ev_bind0 (szIntS_is h a h0 h1 hh) ?_, fun h => by omega⟩
        rw [if_neg g1]
        refine ev_neg (by omega) (ev_bind0 (szIntS_is r _ (by omega) (by omega) hr) ?_)
        rw [if_pos g2]
        exact ev_pos (by omega) (ev_some rfl)
      · have hsz : ∃ u, Ev (fun k => laws_szIntSS.f k R (a - h.length - r.length)) u ∧ (0 ≤ u → (lensII R : Int) + u ≤ a - h.length - r.length) := by
          unfold laws_szIntSS.f
          rw [w64 (x := a - h.length - r.length - R.length) (by omega) (by omega)]
          by_cases g3 : a - h.length - r.length - R.length < 0
          · exact ⟨-1, ev_pos g3 (ev_some rfl), fun h => by omega⟩
          · obtain ⟨u, hu, hl⟩ := szIntSS_sum R b3 hx R.length 0 (a - h.length - r.length - R.length) (by omega) (by omega) (by omega)
            exact ⟨u, ev_neg g3 hu, fun hp => by have := hl hp; rw [List.drop_zero] at this; omega⟩
        obtain ⟨u, hu, hl⟩ := hsz
        by_cases g4 : u < 0
        · refine ⟨-1, ev_bind0 (szIntS_is h a h0 h1 hh) ?_, fun h => by omega⟩
          rw [if_neg g1]
          refine ev_neg (by omega) (ev_bind0 (szIntS_is r _ (by omega) (by omega) hr) ?_)
          rw [if_neg g2]
          exact ev_neg (by omega) (Ev.bind hu (ev_pos g4 (ev_some rfl)))
        · refine ⟨u, ev_bind0 (szIntS_is h a h0 h1 hh) ?_, fun hp => by have := hl hp; omega⟩
          rw [if_neg g1]
          refine ev_neg (by omega) (ev_bind0 (szIntS_is r _ (by omega) (by omega) hr) ?_)
          rw [if_neg g2]
          exact ev_neg (by omega) (Ev.bind hu (ev_neg g4 (ev_some rfl)))
  obtain ⟨u, hu, hl⟩ := key
  rw [ev_one hv hu]
  exact hl (by rw [← ev_one hv hu]; exact hp)
theorem within_is (a b c : Int) : impl_within.f a b c = some (decide (b ≤ a ∧ a ≤ c)) := in_is a b c
theorem l1In_is (a b c : Int) : spec_l1In.f a b c = some (decide (b ≤ a ∧ a ≤ c)) := in_is a b c
def LiOk (xs : List Int) (n : Nat) (most : Int) (zero : Prop) : Prop := xs.length = n ∧ ∀ x ∈ xs, (0 ≤ x ∧ x ≤ most) ∧ (zero → x = 0)
def SkOk (c s mn mx : Int) (h r : List Int) (R : List (List Int)) : Prop :=
  (0 ≤ c ∧ c ≤ 1000000000) ∧ (0 ≤ s ∧ s ≤ 1000000000) ∧ (0 ≤ mn ∧ mn ≤ 1000000) ∧ (0 ≤ mx ∧ mx ≤ 1000000) ∧ mn ≤ mx ∧ R.length = 2 ∧ (c = 0 → s = 0 ∧ mx = 0) ∧
  LiOk h 8 1000000000 (c = 0) ∧ LiOk r 8 17 (c = 0) ∧ LiOk (rd_L1 R 0) 4 1000000000 (c = 0) ∧ LiOk (rd_L1 R 1) 4 1000000000 (c = 0)
noncomputable def skOk (c s mn mx : Int) (h r : List Int) (R : List (List Int)) : Bool := @decide (SkOk c s mn mx h r R) (Classical.propDecidable _)
theorem skOk_true {c s mn mx : Int} {h r : List Int} {R : List (List Int)} : skOk c s mn mx h r R = true ↔ SkOk c s mn mx h r R := by
  unfold skOk
  exact @decide_eq_true_iff _ (Classical.propDecidable _)
theorem skOk_false {c s mn mx : Int} {h r : List Int} {R : List (List Int)} (hn : ¬ SkOk c s mn mx h r R) : skOk c s mn mx h r R = false := by
  cases e : skOk c s mn mx h r R with
  | false => rfl
  | true => exact absurd (skOk_true.1 e) hn
theorem l3List_at (xs : List Int) (n : Nat) (most : Int) (z : Bool) (hn : n ≤ 8) (hl : xs.length = n) (r : Bool) (d : Nat) : ∀ i : Nat, i + d = n →
    ((∀ x ∈ xs.drop i, (0 ≤ x ∧ x ≤ most) ∧ (z = true → x = 0)) → r = true) → (¬ (∀ x ∈ xs.drop i, (0 ≤ x ∧ x ≤ most) ∧ (z = true → x = 0)) → r = false) →
    Ev (fun k => spec_l3List.l0 k xs (n : Int) most z (i : Int)) r := by
  induction d with
  | zero =>
    intro i hi h1 _
    refine Ev.step (fun _ => rfl) ?_
    simp only [spec_l3List.l0]
    refine ev_neg (by omega) (ev_some ?_)
    rw [h1]
    intro x hx
    rw [List.drop_of_length_le (by omega)] at hx
    cases hx
  | succ d ih =>
    intro i hi h1 h2
    have hg : i < xs.length := by omega
    rw [List.drop_eq_getElem_cons hg] at h1 h2
    refine Ev.step (fun _ => rfl) ?_
    simp only [spec_l3List.l0]
    rw [wsucc (by omega), rd_get hg]
    refine ev_pos (by omega) (ev_pos (by omega) (ev_pos (by omega) (ev_bind0 (l1In_is _ _ _) ?_)))
    by_cases c : 0 ≤ xs[i] ∧ xs[i] ≤ most
    · refine ev_pos (decide_eq_true c) ?_
      have hrec : (z = true → xs[i] = 0) → Ev (fun k => spec_l3List.l0 k xs (n : Int) most z ((i + 1 : Nat) : Int)) r := by
        intro hz
        refine ih (i + 1) (by omega) (fun h => h1 fun x hx => ?_) (fun h => h2 fun g => h fun x hx => g x (List.mem_cons_of_mem _ hx))
        rcases List.mem_cons.1 hx with rfl | hx
        · exact ⟨c, hz⟩
        · exact h x hx
      by_cases hz : z = true
      · refine ev_pos hz ?_
        by_cases h0 : xs[i] = 0
        · exact ev_pos h0 (hrec fun _ => h0)
        · refine ev_neg h0 (ev_some ?_)
          exact (h2 fun g => h0 ((g _ List.mem_cons_self).2 hz)).symm
      · exact ev_neg hz (hrec fun h => absurd h hz)
    · refine ev_neg (by rw [decide_eq_false c]; exact Bool.false_ne_true) (ev_some ?_)
      exact (h2 fun g => c (g _ List.mem_cons_self).1).symm
theorem l3List_ev (xs : List Int) (n : Nat) (most : Int) (z : Bool) (hn : n ≤ 8) (r : Bool) (h1 : LiOk xs n most (z = true) → r = true) (h2 : ¬ LiOk xs n most (z = true) → r = false) : Ev (fun k => spec_l3List.f k xs (n : Int) most z) r := by
  unfold spec_l3List.f
  by_cases hl : xs.length = n
  · exact ev_pos (by omega) (l3List_at xs n most z hn hl r n 0 (by omega) (fun h => h1 ⟨hl, h⟩) (fun h => h2 fun g => h g.2))
  · exact ev_neg (by omega) (ev_some (h2 fun g => hl g.1).symm)
theorem l3List_dec (xs : List Int) (n : Nat) (most : Int) (z : Bool) (hn : n ≤ 8) (Z : Prop) (hz : (z = true) = Z) : Ev (fun k => spec_l3List.f k xs (n : Int) most z) (@decide (LiOk xs n most Z) (Classical.propDecidable _)) := by
  subst hz
  exact l3List_ev xs n most z hn _ (fun h => @decide_eq_true _ (Classical.propDecidable _) h) (fun h => @decide_eq_false _ (Classical.propDecidable _) h)
theorem spec_sketchOk_j1 (c s mn mx : Int) (h r : List Int) (R : List (List Int)) (hR : R.length = 2) (f : Bool) (v : Bool)
    (hv : f = false → LiOk h 8 1000000000 (c = 0) → LiOk r 8 17 (c = 0) → LiOk (rd_L1 R 0) 4 1000000000 (c = 0) → LiOk (rd_L1 R 1) 4 1000000000 (c = 0) → v = true)
    (hn : ¬ (f = false ∧ LiOk h 8 1000000000 (c = 0) ∧ LiOk r 8 17 (c = 0) ∧ LiOk (rd_L1 R 0) 4 1000000000 (c = 0) ∧ LiOk (rd_L1 R 1) 4 1000000000 (c = 0)) → v = false) :
    Ev (fun k => spec_SketchOk.j1 k (c == 0) f c s mn mx h r R) v := by
  have ez : ((c == 0) = true) = (c = 0) := by simp
  refine Ev.step (fun _ => rfl) ?_
  simp only [spec_SketchOk.j1]
  refine ev_if (fun hf => ev_some (hn fun g => by rw [hf] at g; exact absurd g.1 (by simp)).symm) (fun hf => ?_)
  have hf' : f = false := by simpa using hf
  have L := fun xs n most hn => l3List_dec xs n most (c == 0) hn (c = 0) ez
  refine Ev.bind (L h 8 1000000000 (by omega)) ?_
  refine ev_if (fun g1 => ?_) (fun g1 => ev_some (hn fun g => g1 (@decide_eq_true _ (Classical.propDecidable _) g.2.1)).symm)
  refine Ev.bind (L r 8 17 (by omega)) ?_
  refine ev_if (fun g2 => ?_) (fun g2 => ev_some (hn fun g => g2 (@decide_eq_true _ (Classical.propDecidable _) g.2.2.1)).symm)
  refine ev_pos (by omega) (Ev.bind (L (rd_L1 R 0) 4 1000000000 (by omega)) ?_)
  refine ev_if (fun g3 => ?_) (fun g3 => ev_some (hn fun g => g3 (@decide_eq_true _ (Classical.propDecidable _) g.2.2.2.1)).symm)
  refine ev_pos (by omega) (Ev.bind (L (rd_L1 R 1) 4 1000000000 (by omega)) (ev_some ?_))
  have t1 := @of_decide_eq_true _ (Classical.propDecidable _) g1
  have t2 := @of_decide_eq_true _ (Classical.propDecidable _) g2
  have t3 := @of_decide_eq_true _ (Classical.propDecidable _) g3
  by_cases t4 : LiOk (rd_L1 R 1) 4 1000000000 (c = 0)
  · rw [hv hf' t1 t2 t3 t4]
    exact @decide_eq_true _ (Classical.propDecidable _) t4
  · rw [hn fun g => t4 g.2.2.2.2]
    exact @decide_eq_false _ (Classical.propDecidable _) t4
theorem spec_sketchOk_ev (c s mn mx : Int) (h r : List Int) (R : List (List Int)) : Ev (fun k => spec_SketchOk.f k c s mn mx h r R) (skOk c s mn mx h r R) := by
  have bad : ¬ SkOk c s mn mx h r R → Ev (fun k => spec_SketchOk.j0 k true c s mn mx h r R) (skOk c s mn mx h r R) := by
    intro hb
    refine Ev.step (fun _ => rfl) ?_
    simp only [spec_SketchOk.j0]
    exact ev_pos (by trivial) (ev_some (skOk_false hb).symm)
  unfold spec_SketchOk.f
  refine ev_bind0 (l1In_is _ _ _) ?_
  by_cases a1 : 0 ≤ c ∧ c ≤ 1000000000
  case neg => exact ev_neg (by rw [decide_eq_false a1]; exact Bool.false_ne_true) (bad fun g => a1 g.1)
  refine ev_pos (decide_eq_true a1) (ev_bind0 (l1In_is _ _ _) ?_)
  by_cases a2 : 0 ≤ s ∧ s ≤ 1000000000
  case neg => exact ev_neg (by rw [decide_eq_false a2]; exact Bool.false_ne_true) (bad fun g => a2 g.2.1)
  refine ev_pos (decide_eq_true a2) (ev_bind0 (l1In_is _ _ _) ?_)
  by_cases a3 : 0 ≤ mn ∧ mn ≤ 1000000
  case neg => exact ev_neg (by rw [decide_eq_false a3]; exact Bool.false_ne_true) (bad fun g => a3 g.2.2.1)
  refine ev_pos (decide_eq_true a3) (ev_bind0 (l1In_is _ _ _) ?_)
  by_cases a4 : 0 ≤ mx ∧ mx ≤ 1000000
  case neg => exact ev_neg (by rw [decide_eq_false a4]; exact Bool.false_ne_true) (bad fun g => a4 g.2.2.2.1)
  refine ev_pos (decide_eq_true a4) ?_
  by_cases a5 : mn ≤ mx
  case neg => exact ev_pos (by omega) (bad fun g => a5 g.2.2.2.2.1)
  refine ev_neg (by omega) ?_
  by_cases a6 : R.length = 2
  case neg =>
    have e : ((R.length : Int) != 2) = true := by simp; omega
    rw [e]
    exact bad fun g => a6 g.2.2.2.2.2.1
  have e : ((R.length : Int) != 2) = false := by simp; omega
  rw [e]
  refine Ev.step (fun _ => rfl) ?_
  simp only [spec_SketchOk.j0]
  refine ev_neg (by simp) ?_
  have fin : ∀ f : Bool, (f = false ↔ (c = 0 → s = 0 ∧ mx = 0)) → Ev (fun k => spec_SketchOk.j1 k (c == 0) f c s mn mx h r R) (skOk c s mn mx h r R) := by
    intro f hf
    refine spec_sketchOk_j1 c s mn mx h r R a6 f _ (fun g1 g2 g3 g4 g5 => skOk_true.2 ⟨a1, a2, a3, a4, a5, a6, hf.1 g1, g2, g3, g4, g5⟩) (fun g => skOk_false fun q => g ⟨hf.2 q.2.2.2.2.2.2.1, q.2.2.2.2.2.2.2⟩)
  refine ev_if (fun z => ?_) (fun z => fin false ⟨fun _ h => absurd h z, fun _ => rfl⟩)
  refine ev_if (fun z2 => fin _ ?_) (fun z2 => fin true ⟨fun h => by simp at h, fun h => absurd (h z).1 z2⟩)
  constructor
  · intro h _
    exact ⟨z2, by simpa using h⟩
  · intro h
    simpa using (h z).2
theorem sum_bd (ys : List Int) (h : ∀ x ∈ ys, 0 ≤ x ∧ x ≤ 1000000000) : 0 ≤ ys.sum ∧ ys.sum ≤ ys.length * 1000000000 := by
  induction ys with
  | nil => simp
  | cons y ys ih =>
    have h1 := h y List.mem_cons_self
    have h2 := ih fun x hx => h x (List.mem_cons_of_mem _ hx)
    rw [List.sum_cons, List.length_cons]
    omega
theorem sum_zero (ys : List Int) (h : ∀ x ∈ ys, 0 ≤ x ∧ x ≤ 1000000000) (h0 : ys.sum = 0) : ∀ x ∈ ys, x = 0 := by
  induction ys with
  | nil => exact fun x hx => by cases hx
  | cons y ys ih =>
    intro x hx
    have h1 := h y List.mem_cons_self
    have h2 := sum_bd ys fun x hx => h x (List.mem_cons_of_mem _ hx)
    rw [List.sum_cons] at h0
    rcases List.mem_cons.1 hx with rfl | hx
    · omega
    · exact ih (fun x hx => h x (List.mem_cons_of_mem _ hx)) (by omega) x hx
theorem zero_sum (ys : List Int) (h : ∀ x ∈ ys, x = 0) : ys.sum = 0 := by
  induction ys with
  | nil => rfl
  | cons y ys ih =>
    rw [List.sum_cons, h y List.mem_cons_self, ih fun x hx => h x (List.mem_cons_of_mem _ hx)]
    rfl
theorem copyInts_is (xs : List Int) (h : xs.length ≤ 1048576) : impl_copyInts.f xs = some xs := by
  unfold impl_copyInts.f
  rw [if_pos (by simp; omega)]
  rfl
theorem counts_ev (c s mn mx : Int) (h r A B : List Int) (hh : h.length ≤ 8) (hr : r.length ≤ 8) (hA : A.length ≤ 8) (hB : B.length ≤ 8) :
    Ev (fun k => impl_counts.f k c s mn mx h r [A, B]) (((h ++ r) ++ A) ++ B) := by
  unfold impl_counts.f
  refine ev_bind0 (copyInts_is h (by omega)) (ev_pos (by omega) ?_)
  refine Ev.step (fun _ => rfl) ?_
  simp only [impl_counts.l0]
  refine ev_pos (by simp) (ev_pos (by simp) (ev_pos (by simp) ?_))
  have e0 : rd_L1 [A, B] 0 = A := rfl
  have w1 : wrap64 (0 + 1) = 1 := by unfold wrap64; omega
  have w2 : wrap64 (1 + 1) = 2 := by unfold wrap64; omega
  have e1 : rd_L1 [A, B] (wrap64 (0 + 1)) = B := by rw [w1]; rfl
  refine ev_pos (by rw [e0]; simp; omega) ?_
  refine Ev.step (fun _ => rfl) ?_
  simp only [impl_counts.l0]
  refine ev_pos (by rw [w1]; simp) (ev_pos (by rw [w1]; omega) (ev_pos (by rw [w1]; simp) ?_))
  refine ev_pos (by rw [e0, e1]; simp; omega) ?_
  refine Ev.step (fun _ => rfl) ?_
  simp only [impl_counts.l0]
  exact ev_neg (by rw [w1, w2]; simp) (ev_some (by rw [e0, e1]))
theorem impl_sketchOk_l1 (c s mn mx : Int) (h r : List Int) (R : List (List Int)) (v : Bool) (t : Int) (hr : r.length ≤ 8) (d : Nat) : ∀ i : Nat, i + d = r.length →
    ((∀ x ∈ r.drop i, x ≤ 17) → v = if c = 0 then (t == 0) else decide (mn ≤ mx ∧ mx ≤ 1000000)) → (¬ (∀ x ∈ r.drop i, x ≤ 17) → v = false) →
    Ev (fun k => impl_SketchOk.l1 k t r (r.length : Int) (i : Int) c s mn mx h r R) v := by
  induction d with
  | zero =>
    intro i hi h1 _
    refine Ev.step (fun _ => rfl) ?_
    simp only [impl_SketchOk.l1]
    refine ev_neg (by omega) ?_
    rw [h1 (fun x hx => by rw [List.drop_of_length_le (by omega)] at hx; cases hx)]
    by_cases hc : c = 0
    · exact ev_pos hc (ev_some (by rw [if_pos hc]))
    · refine ev_neg hc (ev_if (fun g => ev_some ?_) (fun g => ev_some (by rw [if_neg hc]; exact (decide_eq_false fun q => g q.1).symm)))
      rw [if_neg hc]
      exact decide_eq_decide.mpr ⟨fun x => ⟨g, x⟩, fun x => x.2⟩
  | succ d ih =>
    intro i hi h1 h2
    have hg : i < r.length := by omega
    rw [List.drop_eq_getElem_cons hg] at h1 h2
    refine Ev.step (fun _ => rfl) ?_
    simp only [impl_SketchOk.l1]
    rw [wsucc (by omega), rd_get hg]
    refine ev_pos (by omega) (ev_pos (by omega) (ev_pos (by omega) ?_))
    by_cases g : r[i] > 17
    · exact ev_pos g (ev_some (h2 fun q => by have := q _ List.mem_cons_self; omega).symm)
    · refine ev_neg g (ih (i + 1) (by omega) (fun q => h1 fun x hx => ?_) (fun q => h2 fun p => q fun x hx => p x (List.mem_cons_of_mem _ hx)))
      rcases List.mem_cons.1 hx with rfl | hx
      · omega
      · exact q x hx
theorem impl_sketchOk_l0 (c s mn mx : Int) (h r : List Int) (R : List (List Int)) (v : Bool) (ys : List Int) (hy : ys.length ≤ 100) (d : Nat) : ∀ (i : Nat) (t : Int), i + d = ys.length → 0 ≤ t → t ≤ (i : Int) * 1000000000 →
    ((∀ x ∈ ys.drop i, 0 ≤ x ∧ x ≤ 1000000000) → Ev (fun k => impl_SketchOk.l1 k (t + (ys.drop i).sum) r (r.length : Int) 0 c s mn mx h r R) v) → (¬ (∀ x ∈ ys.drop i, 0 ≤ x ∧ x ≤ 1000000000) → v = false) →
    Ev (fun k => impl_SketchOk.l0 k t ys (ys.length : Int) (i : Int) c s mn mx h r R) v := by
  induction d with
  | zero =>
    intro i t hi h0 ht h1 _
    refine Ev.step (fun _ => rfl) ?_
    simp only [impl_SketchOk.l0]
    refine ev_neg (by omega) ?_
    rw [List.drop_of_length_le (by omega)] at h1
    have := h1 (fun x hx => by cases hx)
    rw [List.sum_nil, Int.add_zero] at this
    exact this
  | succ d ih =>
    intro i t hi h0 ht h1 h2
    have hg : i < ys.length := by omega
    rw [List.drop_eq_getElem_cons hg] at h1 h2
    refine Ev.step (fun _ => rfl) ?_
    simp only [impl_SketchOk.l0]
    rw [wsucc (by omega), rd_get hg]
    refine ev_pos (by omega) (ev_pos (by omega) (ev_pos (by omega) (ev_bind0 (within_is _ _ _) ?_)))
    by_cases g : 0 ≤ ys[i] ∧ ys[i] ≤ 1000000000
    · refine ev_pos (decide_eq_true g) ?_
      rw [w64 (x := t + ys[i]) (by omega) (by omega)]
      refine ih (i + 1) _ (by omega) (by omega) (by omega) (fun q => ?_) (fun q => h2 fun p => q fun x hx => p x (List.mem_cons_of_mem _ hx))
      rw [Int.add_assoc, ← List.sum_cons]
      refine h1 fun x hx => ?_
      rcases List.mem_cons.1 hx with rfl | hx
      · exact g
      · exact q x hx
    · exact ev_neg (by rw [decide_eq_false g]; exact Bool.false_ne_true) (ev_some (h2 fun q => g (q _ List.mem_cons_self)).symm)
theorem impl_sketchOk_ev (c s mn mx : Int) (h r : List Int) (R : List (List Int)) : Ev (fun k => impl_SketchOk.f k c s mn mx h r R) (skOk c s mn mx h r R) := by
  have bad : ¬ SkOk c s mn mx h r R → Ev (fun k => impl_SketchOk.j0 k true c s mn mx h r R) (skOk c s mn mx h r R) := by
    intro hb
    refine Ev.step (fun _ => rfl) ?_
    simp only [impl_SketchOk.j0]
    exact ev_pos (by trivial) (ev_some (skOk_false hb).symm)
  unfold impl_SketchOk.f
  by_cases a1 : h.length = 8
  case neg => exact ev_neg (by omega) (bad fun g => a1 g.2.2.2.2.2.2.2.1.1)
  refine ev_pos (by omega) ?_
  by_cases a2 : r.length = 8
  case neg => exact ev_neg (by omega) (bad fun g => a2 g.2.2.2.2.2.2.2.2.1.1)
  refine ev_pos (by omega) ?_
  by_cases a3 : R.length = 2
  case neg => exact ev_neg (by omega) (bad fun g => a3 g.2.2.2.2.2.1)
  refine ev_pos (by omega) (ev_pos (by omega) ?_)
  by_cases a4 : (rd_L1 R 0).length = 4
  case neg => exact ev_neg (by omega) (bad fun g => a4 g.2.2.2.2.2.2.2.2.2.1.1)
  refine ev_pos (by omega) (ev_pos (by omega) ?_)
  by_cases a5 : (rd_L1 R 1).length = 4
  case neg =>
    have e : (((rd_L1 R 1).length : Int) != 4) = true := by simp; omega
    rw [e]
    exact bad fun g => a5 g.2.2.2.2.2.2.2.2.2.2.1
  have e : (((rd_L1 R 1).length : Int) != 4) = false := by simp; omega
  rw [e]
  clear e bad
  obtain ⟨A, B, rfl⟩ : ∃ A B, R = [A, B] := by
    match R, a3 with
    | [A, B], _ => exact ⟨A, B, rfl⟩
  have eA : rd_L1 [A, B] 0 = A := rfl
  have eB : rd_L1 [A, B] 1 = B := rfl
  rw [eA] at a4
  rw [eB] at a5
  refine Ev.step (fun _ => rfl) ?_
  simp only [impl_SketchOk.j0]
  refine ev_neg (by simp) (Ev.bind (counts_ev c s mn mx h r A B (by omega) (by omega) (by omega) (by omega)) (ev_bind0 rfl (ev_pos ?_ (ev_bind0 rfl ?_))))
  · simp only [List.length_append, List.length_cons, List.length_nil]
    omega
  generalize hys : (((h ++ r) ++ A) ++ B) ++ [c, s, mn, mx] = ys
  have hyl : ys.length = 28 := by
    rw [← hys]
    simp only [List.length_append, List.length_cons, List.length_nil]
    omega
  have hmem : ∀ P : Int → Prop, (∀ x ∈ ys, P x) ↔ (∀ x ∈ h, P x) ∧ (∀ x ∈ r, P x) ∧ (∀ x ∈ A, P x) ∧ (∀ x ∈ B, P x) ∧ P c ∧ P s ∧ P mn ∧ P mx := by
    intro P
    rw [← hys]
    constructor
    · intro q
      exact ⟨fun x hx => q x (by simp [hx]), fun x hx => q x (by simp [hx]), fun x hx => q x (by simp [hx]), fun x hx => q x (by simp [hx]), q c (by simp), q s (by simp), q mn (by simp), q mx (by simp)⟩
    · rintro ⟨q1, q2, q3, q4, q5, q6, q7, q8⟩ x hx
      simp only [List.mem_append, List.mem_cons, List.not_mem_nil, or_false] at hx
      rcases hx with (((hx | hx) | hx) | hx) | rfl | rfl | rfl | rfl
      · exact q1 x hx
      · exact q2 x hx
      · exact q3 x hx
      · exact q4 x hx
      · exact q5
      · exact q6
      · exact q7
      · exact q8
  refine impl_sketchOk_l0 c s mn mx h r [A, B] _ ys (by omega) 28 0 0 (by omega) (by omega) (by omega) (fun q => ?_) (fun q => skOk_false fun g => q ?_)
  · rw [List.drop_zero] at q
    rw [List.drop_zero, Int.zero_add]
    have qq := (hmem _).1 q
    refine impl_sketchOk_l1 c s mn mx h r [A, B] _ ys.sum (by omega) 8 0 (by omega) (fun p => ?_) (fun p => skOk_false fun g => p fun x hx => ?_)
    · rw [List.drop_zero] at p
      by_cases hc : c = 0
      · rw [if_pos hc]
        by_cases hz : ys.sum = 0
        · have z := (hmem _).1 (sum_zero ys q hz)
          have e : (ys.sum == 0) = true := by simpa using hz
          rw [e]
          refine skOk_true.2 ⟨by omega, by omega, by omega, by omega, by omega, rfl, fun _ => ⟨z.2.2.2.2.2.1, z.2.2.2.2.2.2.2⟩, ⟨a1, fun x hx => ⟨qq.1 x hx, fun _ => z.1 x hx⟩⟩, ⟨a2, fun x hx => ⟨⟨(qq.2.1 x hx).1, p x hx⟩, fun _ => z.2.1 x hx⟩⟩, ⟨a4, fun x hx => ⟨qq.2.2.1 x hx, fun _ => z.2.2.1 x hx⟩⟩, ⟨a5, fun x hx => ⟨qq.2.2.2.1 x hx, fun _ => z.2.2.2.1 x hx⟩⟩⟩
        · have e : (ys.sum == 0) = false := by simpa using hz
          rw [e]
          refine skOk_false fun g => hz (zero_sum ys ((hmem _).2 ?_))
          obtain ⟨g1, g2, g3, g4, g5, g6, g7, g8, g9, g10, g11⟩ := g
          have := g7 hc
          exact ⟨fun x hx => (g8.2 x hx).2 hc, fun x hx => (g9.2 x hx).2 hc, fun x hx => (g10.2 x hx).2 hc, fun x hx => (g11.2 x hx).2 hc, hc, this.1, by omega, this.2⟩
      · rw [if_neg hc]
        by_cases hm : mn ≤ mx ∧ mx ≤ 1000000
        · rw [decide_eq_true hm]
          refine skOk_true.2 ⟨qq.2.2.2.2.1, qq.2.2.2.2.2.1, by omega, by omega, hm.1, rfl, fun z => absurd z hc, ⟨a1, fun x hx => ⟨qq.1 x hx, fun z => absurd z hc⟩⟩, ⟨a2, fun x hx => ⟨⟨(qq.2.1 x hx).1, p x hx⟩, fun z => absurd z hc⟩⟩, ⟨a4, fun x hx => ⟨qq.2.2.1 x hx, fun z => absurd z hc⟩⟩, ⟨a5, fun x hx => ⟨qq.2.2.2.1 x hx, fun z => absurd z hc⟩⟩⟩
        · rw [decide_eq_false hm]
          exact skOk_false fun g => hm ⟨g.2.2.2.2.1, g.2.2.2.1.2⟩
    · rw [List.drop_zero] at hx
      exact (g.2.2.2.2.2.2.2.2.1.2 x hx).1.2
  · rw [List.drop_zero]
    obtain ⟨g1, g2, g3, g4, g5, g6, g7, g8, g9, g10, g11⟩ := g
    exact (hmem _).2 ⟨fun x hx => (g8.2 x hx).1, fun x hx => by have := (g9.2 x hx).1; omega, fun x hx => (g10.2 x hx).1, fun x hx => (g11.2 x hx).1, g1, g2, by omega, by omega⟩
structure Yf (W0 w : World) (g T : Nat) (Z : Array Value) (a : Nat) : Prop where
  bx : Bx w g T Z
  lo : W0.heap.size ≤ g
  hi : g < a
theorem sz_up (w : World) (o : Obj) : w.heap.size ≤ (w.alloc o).heap.size := by simp
section
variable {W0 wp w1 w' : World} {T g : Nat} {Z : Array Value} {a b a' : Nat} {x y z : Sl} {h r : List Int} {R : List (List Int)} {y' : Sl} {Z' : Array Value}
theorem reg_new (HB : Below W0.heap.size W0 wp) (hb : Below (wp.alloc (.cells Z T)).heap.size (wp.alloc (.cells Z T)) w1) (hm : Made (wp.alloc (.cells Z T)) w1 a b) : Below W0.heap.size W0 w1 ∧ Yf W0 w1 wp.heap.size T Z a ∧ Made wp w1 a b ∧ Below wp.heap.size wp w1 := by
  have s : (wp.alloc (.cells Z T)).heap.size = wp.heap.size + 1 := by simp
  have h1 := hm.1
  have hp := below_step (below_alloc (Below.refl _ wp) (.cells Z T)) hb
  exact ⟨below_step HB hp, ⟨(Bx.new wp T Z).below hb, HB.size, by omega⟩, ⟨by omega, hm.2⟩, hp⟩
theorem reg_new0 (hb : Below (W0.alloc (.cells Z T)).drew.heap.size (W0.alloc (.cells Z T)).drew w1) (hm : Made (W0.alloc (.cells Z T)).drew w1 a b) : Below W0.heap.size W0 w1 ∧ Yf W0 w1 W0.heap.size T Z a ∧ Made W0 w1 a b ∧ Below W0.heap.size W0 w1 := by
  have s : (W0.alloc (.cells Z T)).drew.heap.size = W0.heap.size + 1 := by simp
  have h1 := hm.1
  have hd : Below (W0.alloc (.cells Z T)).heap.size (W0.alloc (.cells Z T)) (W0.alloc (.cells Z T)).drew := below_drew (Below.refl _ _)
  have hp := below_step (below_step (below_alloc (Below.refl _ W0) (.cells Z T)) hd) hb
  exact ⟨hp, ⟨((Bx.new W0 T Z).below hd).below hb, Nat.le_refl _, by omega⟩, ⟨by omega, hm.2⟩, hp⟩
theorem reg_old (HB : Below W0.heap.size W0 wp) (y : Yf W0 wp g T Z a') (hb : Below wp.heap.size wp w1) (hm : Made wp w1 a b) : Below W0.heap.size W0 w1 ∧ Yf W0 w1 g T Z a := by
  have := y.bx.lt
  have := hm.1
  exact ⟨below_step HB hb, y.bx.below hb, y.lo, by omega⟩
theorem reg_end_rk (HB : Below W0.heap.size W0 wp) (y : Yf W0 wp g T Z a) (m : W0.heap.size ≤ a ∧ a ≤ b ∧ b ≤ wp.heap.size) (s : Rk wp a b x y' z h r R) (f : Bx w' g T Z' ∧ Kp wp w' g (g + 1)) : Rk w' a b x y' z h r R ∧ Bx w' g T Z' ∧ Below W0.heap.size W0 w' ∧ W0.heap.size ≤ g ∧ g < w'.heap.size ∧ W0.heap.size ≤ a ∧ a ≤ b ∧ b ≤ w'.heap.size := by
  have := y.hi
  have := f.2.kept.1
  exact ⟨s.kp f.2 (.inl (by omega)), f.1, below_kp HB f.2 y.lo HB.size, y.lo, f.1.lt, m.1, m.2.1, by omega⟩
theorem reg_end_sk (HB : Below W0.heap.size W0 wp) (y : Yf W0 wp g T Z a) (m : W0.heap.size ≤ a ∧ a ≤ b ∧ b ≤ wp.heap.size) (s : Sk wp a b x y' z h r R) (f : Bx w' g T Z' ∧ Kp wp w' g (g + 1)) : Sk w' a b x y' z h r R ∧ Bx w' g T Z' ∧ Below W0.heap.size W0 w' ∧ W0.heap.size ≤ g ∧ g < w'.heap.size ∧ W0.heap.size ≤ a ∧ a ≤ b ∧ b ≤ w'.heap.size := by
  have := y.hi
  have := f.2.kept.1
  exact ⟨s.kp f.2 (.inl (by omega)), f.1, below_kp HB f.2 y.lo HB.size, y.lo, f.1.lt, m.1, m.2.1, by omega⟩
theorem reg_last_rk (F : Array Value) (T : Nat) (HB : Below W0.heap.size W0 wp) (m : W0.heap.size ≤ a ∧ a ≤ b ∧ b ≤ wp.heap.size) (s : Rk wp a b x y' z h r R) : Rk (wp.alloc (.cells F T)) a b x y' z h r R ∧ Bx (wp.alloc (.cells F T)) wp.heap.size T F ∧ Below W0.heap.size W0 (wp.alloc (.cells F T)) ∧ W0.heap.size ≤ wp.heap.size ∧ wp.heap.size < (wp.alloc (.cells F T)).heap.size ∧ W0.heap.size ≤ a ∧ a ≤ b ∧ b ≤ (wp.alloc (.cells F T)).heap.size := by
  have s1 : (wp.alloc (.cells F T)).heap.size = wp.heap.size + 1 := by simp
  exact ⟨s.below (below_alloc (Below.refl _ wp) (.cells F T)), Bx.new wp T F, below_step HB (below_alloc (Below.refl _ wp) (.cells F T)), HB.size, by omega, m.1, m.2.1, by omega⟩
theorem reg_last_sk (F : Array Value) (T : Nat) (HB : Below W0.heap.size W0 wp) (m : W0.heap.size ≤ a ∧ a ≤ b ∧ b ≤ wp.heap.size) (s : Sk wp a b x y' z h r R) : Sk (wp.alloc (.cells F T)) a b x y' z h r R ∧ Bx (wp.alloc (.cells F T)) wp.heap.size T F ∧ Below W0.heap.size W0 (wp.alloc (.cells F T)) ∧ W0.heap.size ≤ wp.heap.size ∧ wp.heap.size < (wp.alloc (.cells F T)).heap.size ∧ W0.heap.size ≤ a ∧ a ≤ b ∧ b ≤ (wp.alloc (.cells F T)).heap.size := by
  have s1 : (wp.alloc (.cells F T)).heap.size = wp.heap.size + 1 := by simp
  exact ⟨s.below (below_alloc (Below.refl _ wp) (.cells F T)), Bx.new wp T F, below_step HB (below_alloc (Below.refl _ wp) (.cells F T)), HB.size, by omega, m.1, m.2.1, by omega⟩
end
theorem impl_add_is {a b : Int} (ha : 0 ≤ a ∧ a ≤ 1000000000) (hb : 0 ≤ b ∧ b ≤ 1000000000) : impl_Add.f a b = some (sadd a b) := by
  unfold impl_Add.f impl_limited.f mn mx
  have e : ∀ x : Int, 0 ≤ x ∧ x ≤ 1000000000 → (if 1000000000 < (if x < 0 then 0 else x) then 1000000000 else (if x < 0 then 0 else x)) = x := by
    intro x hx
    repeat' split
    all_goals omega
  rw [e a ha, e b hb, Option.bind_some, Option.bind_some, w64 (x := a + b) (by omega) (by omega)]
  unfold sadd
  congr 1
  repeat' split
  all_goals omega
theorem spec_add_is {a b : Int} (ha : 0 ≤ a ∧ a ≤ 1000000000) (hb : 0 ≤ b ∧ b ≤ 1000000000) : spec_Add.f a b = some (sadd a b) := by
  have c : ∀ x : Int, 0 ≤ x ∧ x ≤ 1000000000 → spec_l2Clip.f x 1000000000 = some x := by
    intro x hx
    unfold spec_l2Clip.f spec_l1Min.f spec_l1Max.f
    by_cases h : x < 1000000000
    · simp only [if_pos h, Option.bind_some]
      split
      · congr 1; omega
      · rfl
    · simp only [if_neg h, Option.bind_some]
      rw [if_neg (by omega), show x = 1000000000 by omega]
      rfl
  unfold spec_Add.f spec_l1Min.f
  rw [c a ha, c b hb, Option.bind_some, Option.bind_some, w64 (x := a + b) (by omega) (by omega)]
  unfold sadd
  by_cases h : a + b < 1000000000
  · rw [if_pos h, if_neg (by omega)]
    rfl
  · rw [if_neg h]
    split
    · rfl
    · simp only [Option.bind_some]
      congr 1
      omega
theorem two_rows {R : List (List Int)} (h : R.length = 2) : ∃ p q, R = [p, q] := by
  match R, h with
  | [p, q], _ => exact ⟨p, q, rfl⟩
theorem skOk_su {c s lo hi : Int} {h r p q : List Int} (ok : SkOk c s lo hi h r [p, q]) : Su.Ok ⟨c, s, lo, hi, h, r, p, q⟩ := by
  obtain ⟨h1, h2, h3, h4, h5, h6, h7, h8, h9, h10, h11⟩ := ok
  exact ⟨h1, h2, h3, h4, h5, h7, h8, h9, h10, h11⟩
theorem su_skOk {u : Su} (ok : u.Ok) : SkOk u.c u.s u.mn u.mx u.h u.r [u.p, u.q] := ⟨ok.hc, ok.hs, ok.hmn, ok.hmx, ok.hle, rfl, ok.hz, ok.hh, ok.hr, ok.hp, ok.hq⟩
theorem lok_getD {xs : List Int} {n : Nat} {most : Int} {z : Prop} (h : LOk xs n most z) {i : Nat} (hi : i < n) : 0 ≤ xs.getD i 0 ∧ xs.getD i 0 ≤ most := by
  have h1 : i < xs.length := by rw [h.1]; exact hi
  rw [List.getD_eq_getElem?_getD, List.getElem?_eq_getElem h1]
  exact (h.2 _ (List.getElem_mem h1)).1
def suOut (u : Su) (b : Bool) : Int × Int × Int × Int × List Int × List Int × List (List Int) × Bool := (u.c, u.s, u.mn, u.mx, u.h, u.r, [u.p, u.q], b)
theorem su_lens {u : Su} (h : u.Ok) : u.h.length ≤ 1048576 ∧ u.r.length ≤ 1048576 ∧ [u.p, u.q].length ≤ 1048576 ∧ ∀ x ∈ [u.p, u.q], x.length ≤ 1048576 := by
  have h1 := h.hh.1
  have h2 := h.hr.1
  have h3 := h.hp.1
  have h4 := h.hq.1
  refine ⟨by omega, by omega, by simp, fun x hx => ?_⟩
  simp only [List.mem_cons, List.not_mem_nil, or_false] at hx
  rcases hx with rfl | rfl <;> omega
theorem impl_copy_at (c s lo hi : Int) (h r : List Int) (R : List (List Int)) (hR : R.length ≤ 1048576) (hx : ∀ x ∈ R, x.length ≤ 1048576) (d : Nat) : ∀ i : Nat, i + d = R.length →
    Ev (fun k => impl_copySketch.l0 k R (R.length : Int) (i : Int) c s lo hi h r (R.take i)) (c, s, lo, hi, h, r, R) := by
  induction d with
  | zero =>
    intro i hi'
    refine Ev.step (fun _ => rfl) ?_
    simp only [impl_copySketch.l0]
    exact ev_neg (by omega) (ev_some (by rw [show i = R.length by omega, List.take_length]))
  | succ d ih =>
    intro i hi'
    refine Ev.step (fun _ => rfl) ?_
    simp only [impl_copySketch.l0]
    have hiR : i < R.length := by omega
    have hl := hx _ (List.getElem_mem hiR)
    rw [wsucc (by omega), rdR_get hiR]
    refine ev_pos (by omega) (ev_pos (by omega) (ev_pos (by omega) (ev_bind0 (a := R[i]) (by unfold impl_copyInts.f; rw [if_pos (by simp; omega), List.nil_append]) (ev_pos (by simp; omega) ?_))))
    rw [← List.take_succ_eq_append_getElem hiR]
    exact ih (i + 1) (by omega)
theorem impl_copy_ev (c s lo hi : Int) (h r : List Int) (R : List (List Int)) (hh : h.length ≤ 1048576) (hr : r.length ≤ 1048576) (hR : R.length ≤ 1048576) (hx : ∀ x ∈ R, x.length ≤ 1048576) :
    Ev (fun k => impl_copySketch.f k c s lo hi h r R) (c, s, lo, hi, h, r, R) := by
  unfold impl_copySketch.f
  refine ev_bind0 (a := h) (by unfold impl_copyInts.f; rw [if_pos (by simp; omega), List.nil_append]) (ev_bind0 (a := r) (by unfold impl_copyInts.f; rw [if_pos (by simp; omega), List.nil_append]) ?_)
  have := impl_copy_at c s lo hi h r R hR hx R.length 0 (by omega)
  simpa using this
theorem zip_getD (f : Int → Int → Int) : ∀ (xs ys : List Int) (i : Nat), i < xs.length → i < ys.length → (List.zipWith f xs ys).getD i 0 = f (xs.getD i 0) (ys.getD i 0) := by
  intro xs ys i h1 h2
  simp only [List.getD_eq_getElem?_getD]
  rw [List.getElem?_eq_getElem h1, List.getElem?_eq_getElem h2, List.getElem?_eq_getElem (by simp; omega)]
  simp
theorem mx_hi (a b : Int) : mx a b = hi2 a b := by
  unfold mx hi2
  repeat' split
  all_goals omega
theorem impl_merge_ev {a b : Su} (ha : a.Ok) (hb : b.Ok) : Ev (fun k => impl_Merge.f k a.c a.s a.mn a.mx a.h a.r [a.p, a.q] b.c b.s b.mn b.mx b.h b.r [b.p, b.q]) (suOut (Su.mrg a b) true) := by
  obtain ⟨b1, b2, b3, b4⟩ := su_lens ha
  have G : impl_Merge.G a.c a.s a.h a.r [a.p, a.q] b.c b.s b.h b.r [b.p, b.q] := by
    have hz : ∀ (xs ys : List Int) (n : Nat) (z z' : Prop), LOk xs n 1000000000 z → LOk ys n 1000000000 z' → ∀ i, i < n → impl_Add.f (xs.getD i 0) (ys.getD i 0) = some ((List.zipWith sadd xs ys).getD i 0) := by
      intro xs ys n z z' h1 h2 i hi
      rw [zip_getD _ _ _ _ (by rw [h1.1]; exact hi) (by rw [h2.1]; exact hi)]
      exact impl_add_is (lok_getD h1 hi) (lok_getD h2 hi)
    refine ⟨⟨ha.hh.1, ha.hr.1, rfl, hb.hh.1, hb.hr.1, rfl⟩, impl_add_is ha.hc hb.hc, impl_add_is ha.hs hb.hs, hz _ _ _ _ _ ha.hh hb.hh, fun i hi => ?_, fun i hi => ?_⟩
    · rw [zip_getD _ _ _ _ (by rw [ha.hr.1]; exact hi) (by rw [hb.hr.1]; exact hi)]
      exact mx_hi _ _
    · match i, hi with
      | 0, _ => exact ⟨by show (List.zipWith sadd a.p b.p).length = 4; simp [ha.hp.1, hb.hp.1], ha.hp.1, hb.hp.1, hz _ _ _ _ _ ha.hp hb.hp⟩
      | 1, _ => exact ⟨by show (List.zipWith sadd a.q b.q).length = 4; simp [ha.hq.1, hb.hq.1], ha.hq.1, hb.hq.1, hz _ _ _ _ _ ha.hq hb.hq⟩
  have ea := impl_sketchOk_ev a.c a.s a.mn a.mx a.h a.r [a.p, a.q]
  have eb := impl_sketchOk_ev b.c b.s b.mn b.mx b.h b.r [b.p, b.q]
  rw [skOk_true.2 (su_skOk ha)] at ea
  rw [skOk_true.2 (su_skOk hb)] at eb
  unfold impl_Merge.f
  refine Ev.bind ea (ev_pos (by trivial) (Ev.bind eb (ev_pos (by trivial) (Ev.bind (impl_copy_ev a.c a.s a.mn a.mx a.h a.r [a.p, a.q] b1 b2 b3 b4) (ev_pos ⟨⟨rfl, rfl, rfl, rfl, rfl, rfl, rfl⟩, G⟩ (ev_some ?_))))))
  have e1 : impl_Merge.lo a.c a.mn b.c b.mn = if a.c = 0 then b.mn else if b.c = 0 then a.mn else lo2 a.mn b.mn := by
    have := Su.mn0 ha
    have := Su.mn0 hb
    have := ha.hc
    have := hb.hc
    unfold impl_Merge.lo lo2
    repeat' split
    all_goals omega
  rw [e1, mx_hi]
  rfl
theorem spec_sum_at (xs ys : List Int) (n : Nat) (z z' : Prop) (h1 : LOk xs n 1000000000 z) (h2 : LOk ys n 1000000000 z') (hn : n ≤ 1048576) (d : Nat) : ∀ i : Nat, i + d = n →
    Ev (fun k => spec_l3Sum.l0 k xs ys ((List.zipWith sadd xs ys).take i) (i : Int)) (List.zipWith sadd xs ys) := by
  have l1 := h1.1
  have l2 := h2.1
  have lz : (List.zipWith sadd xs ys).length = n := by simp [l1, l2]
  induction d with
  | zero =>
    intro i hi
    refine Ev.step (fun _ => rfl) ?_
    simp only [spec_l3Sum.l0]
    exact ev_neg (by omega) (ev_some (by rw [List.take_of_length_le (by omega)]))
  | succ d ih =>
    intro i hi
    refine Ev.step (fun _ => rfl) ?_
    simp only [spec_l3Sum.l0]
    have hlt : i < n := by omega
    rw [rd_nat, rd_nat, wsucc (by omega)]
    refine ev_pos (by omega) (ev_pos (by omega) (ev_pos (by omega) (ev_bind0 (spec_add_is (lok_getD h1 hlt) (lok_getD h2 hlt)) (ev_pos (by rw [List.length_take]; omega) ?_))))
    have e : (List.zipWith sadd xs ys).take i ++ [sadd (xs.getD i 0) (ys.getD i 0)] = (List.zipWith sadd xs ys).take (i + 1) := by
      rw [List.take_succ_eq_append_getElem (by omega), ← zip_getD sadd xs ys i (by omega) (by omega), List.getD_eq_getElem?_getD, List.getElem?_eq_getElem (by omega)]
      rfl
    rw [e]
    exact ih (i + 1) (by omega)
theorem spec_sum_ev (xs ys : List Int) (n : Nat) (z z' : Prop) (h1 : LOk xs n 1000000000 z) (h2 : LOk ys n 1000000000 z') (hn : n ≤ 1048576) : Ev (fun k => spec_l3Sum.f k xs ys) (List.zipWith sadd xs ys) := by
  unfold spec_l3Sum.f
  exact spec_sum_at xs ys n z z' h1 h2 hn n 0 (by omega)
theorem spec_max_is (x y : Int) : spec_l1Max.f x y = some (hi2 x y) := by
  unfold spec_l1Max.f hi2
  split <;> rfl
theorem spec_min_is (x y : Int) : spec_l1Min.f x y = some (lo2 x y) := by
  unfold spec_l1Min.f lo2
  split <;> rfl
theorem spec_regs_at {a b : Su} (ha : a.Ok) (hb : b.Ok) (C S M X : Int) (H : List Int) (W : List (List Int)) (d : Nat) : ∀ i : Nat, i + d = 8 →
    Ev (fun k => spec_l3Merge.l0 k (i : Int) a.c a.s a.mn a.mx a.h a.r [a.p, a.q] b.c b.s b.mn b.mx b.h b.r [b.p, b.q] C S M X H ((List.zipWith hi2 a.r b.r).take i) W) (C, S, M, X, H, List.zipWith hi2 a.r b.r, W) := by
  have l1 := ha.hr.1
  have l2 := hb.hr.1
  have lz : (List.zipWith hi2 a.r b.r).length = 8 := by simp [l1, l2]
  induction d with
  | zero =>
    intro i hi
    refine Ev.step (fun _ => rfl) ?_
    simp only [spec_l3Merge.l0]
    exact ev_neg (by omega) (ev_some (by rw [List.take_of_length_le (by omega)]))
  | succ d ih =>
    intro i hi
    refine Ev.step (fun _ => rfl) ?_
    simp only [spec_l3Merge.l0]
    rw [rd_nat, rd_nat, wsucc (by omega)]
    refine ev_pos (by omega) (ev_pos (by omega) (ev_pos (by omega) (ev_pos (by omega) (ev_bind0 (spec_max_is _ _) (ev_pos (by rw [List.length_take]; omega) ?_)))))
    have e : (List.zipWith hi2 a.r b.r).take i ++ [hi2 (a.r.getD i 0) (b.r.getD i 0)] = (List.zipWith hi2 a.r b.r).take (i + 1) := by
      rw [List.take_succ_eq_append_getElem (by omega), ← zip_getD hi2 a.r b.r i (by omega) (by omega), List.getD_eq_getElem?_getD, List.getElem?_eq_getElem (by omega)]
      rfl
    rw [e]
    exact ih (i + 1) (by omega)
theorem spec_l3Merge_ev {a b : Su} (ha : a.Ok) (hb : b.Ok) : Ev (fun k => spec_l3Merge.f k a.c a.s a.mn a.mx a.h a.r [a.p, a.q] b.c b.s b.mn b.mx b.h b.r [b.p, b.q])
    (sadd a.c b.c, sadd a.s b.s, (if a.c = 0 then b.mn else if b.c = 0 then a.mn else lo2 a.mn b.mn), hi2 a.mx b.mx, List.zipWith sadd a.h b.h, List.zipWith hi2 a.r b.r, [List.zipWith sadd a.p b.p, List.zipWith sadd a.q b.q]) := by
  unfold spec_l3Merge.f
  have q0 : ∀ p q : List Int, rd_L1 [p, q] 0 = p := fun _ _ => rfl
  have q1 : ∀ p q : List Int, rd_L1 [p, q] 1 = q := fun _ _ => rfl
  simp only [q0, q1]
  refine ev_bind0 (spec_add_is ha.hc hb.hc) (ev_bind0 (spec_add_is ha.hs hb.hs) (ev_bind0 (spec_min_is _ _) (ev_bind0 (spec_max_is _ _) (Ev.bind (spec_sum_ev _ _ 8 _ _ ha.hh hb.hh (by omega)) (ev_pos (by simp) (ev_pos (by simp) (Ev.bind (spec_sum_ev _ _ 4 _ _ ha.hp hb.hp (by omega)) (ev_pos (by simp) (ev_pos (by simp) (Ev.bind (spec_sum_ev _ _ 4 _ _ ha.hq hb.hq (by omega)) (ev_bind0 rfl ?_)))))))))))
  have fin : ∀ M : Int, M = (if a.c = 0 then b.mn else if b.c = 0 then a.mn else lo2 a.mn b.mn) → Ev (fun k => spec_l3Merge.j1 k a.c a.s a.mn a.mx a.h a.r [a.p, a.q] b.c b.s b.mn b.mx b.h b.r [b.p, b.q] (sadd a.c b.c) (sadd a.s b.s) M (hi2 a.mx b.mx) (List.zipWith sadd a.h b.h) [List.zipWith sadd a.p b.p, List.zipWith sadd a.q b.q])
      (sadd a.c b.c, sadd a.s b.s, (if a.c = 0 then b.mn else if b.c = 0 then a.mn else lo2 a.mn b.mn), hi2 a.mx b.mx, List.zipWith sadd a.h b.h, List.zipWith hi2 a.r b.r, [List.zipWith sadd a.p b.p, List.zipWith sadd a.q b.q]) := by
    intro M hM
    rw [← hM]
    refine Ev.step (fun _ => rfl) ?_
    simp only [spec_l3Merge.j1]
    exact spec_regs_at ha hb _ _ _ _ _ _ 8 0 (by omega)
  have m1 := Su.mn0 ha
  have m2 := Su.mn0 hb
  by_cases e1 : a.c = 0
  · refine ev_pos e1 (Ev.step (fun _ => rfl) ?_)
    simp only [spec_l3Merge.j0]
    by_cases e2 : b.c = 0
    · exact ev_pos e2 (fin _ (by rw [if_pos e1, m1 e1, m2 e2]))
    · exact ev_neg e2 (fin _ (by rw [if_pos e1]))
  · refine ev_neg e1 (Ev.step (fun _ => rfl) ?_)
    simp only [spec_l3Merge.j0]
    by_cases e2 : b.c = 0
    · exact ev_pos e2 (fin _ (by rw [if_neg e1, if_pos e2]))
    · exact ev_neg e2 (fin _ (by rw [if_neg e1, if_neg e2]))
theorem spec_merge_ev {a b : Su} (ha : a.Ok) (hb : b.Ok) : Ev (fun k => spec_Merge.f k a.c a.s a.mn a.mx a.h a.r [a.p, a.q] b.c b.s b.mn b.mx b.h b.r [b.p, b.q]) (suOut (Su.mrg a b) true) := by
  have ea := spec_sketchOk_ev a.c a.s a.mn a.mx a.h a.r [a.p, a.q]
  have eb := spec_sketchOk_ev b.c b.s b.mn b.mx b.h b.r [b.p, b.q]
  rw [skOk_true.2 (su_skOk ha)] at ea
  rw [skOk_true.2 (su_skOk hb)] at eb
  unfold spec_Merge.f
  exact Ev.bind ea (ev_pos (by trivial) (Ev.bind eb (ev_pos (by trivial) (Ev.bind (spec_l3Merge_ev ha hb) (ev_some rfl)))))
noncomputable def mrgV (c s lo hi : Int) (h r : List Int) (R : List (List Int)) (c' s' lo' hi' : Int) (h' r' : List Int) (R' : List (List Int)) : Int × Int × Int × Int × List Int × List Int × List (List Int) × Bool :=
  if skOk c s lo hi h r R = true ∧ skOk c' s' lo' hi' h' r' R' = true then suOut (Su.mrg ⟨c, s, lo, hi, h, r, rd_L1 R 0, rd_L1 R 1⟩ ⟨c', s', lo', hi', h', r', rd_L1 R' 0, rd_L1 R' 1⟩) true else (0, 0, 0, 0, [], [], [], false)
theorem impl_mrg_ev (c s lo hi : Int) (h r : List Int) (R : List (List Int)) (c' s' lo' hi' : Int) (h' r' : List Int) (R' : List (List Int)) : Ev (fun k => impl_Merge.f k c s lo hi h r R c' s' lo' hi' h' r' R') (mrgV c s lo hi h r R c' s' lo' hi' h' r' R') := by
  have ea := impl_sketchOk_ev c s lo hi h r R
  have eb := impl_sketchOk_ev c' s' lo' hi' h' r' R'
  unfold mrgV
  cases oa : skOk c s lo hi h r R with
  | false =>
    rw [oa] at ea
    rw [if_neg (by simp)]
    unfold impl_Merge.f
    exact Ev.bind ea (ev_neg (by simp) (ev_some rfl))
  | true =>
    cases ob : skOk c' s' lo' hi' h' r' R' with
    | false =>
      rw [oa] at ea
      rw [ob] at eb
      rw [if_neg (by simp)]
      unfold impl_Merge.f
      exact Ev.bind ea (ev_pos (by trivial) (Ev.bind eb (ev_neg (by simp) (ev_some rfl))))
    | true =>
      have ha := skOk_true.1 oa
      have hb := skOk_true.1 ob
      obtain ⟨p, q, rfl⟩ := two_rows ha.2.2.2.2.2.1
      obtain ⟨p', q', rfl⟩ := two_rows hb.2.2.2.2.2.1
      rw [if_pos ⟨rfl, rfl⟩]
      exact impl_merge_ev (a := ⟨c, s, lo, hi, h, r, p, q⟩) (b := ⟨c', s', lo', hi', h', r', p', q'⟩) (skOk_su ha) (skOk_su hb)
theorem spec_mrg_ev (c s lo hi : Int) (h r : List Int) (R : List (List Int)) (c' s' lo' hi' : Int) (h' r' : List Int) (R' : List (List Int)) : Ev (fun k => spec_Merge.f k c s lo hi h r R c' s' lo' hi' h' r' R') (mrgV c s lo hi h r R c' s' lo' hi' h' r' R') := by
  have ea := spec_sketchOk_ev c s lo hi h r R
  have eb := spec_sketchOk_ev c' s' lo' hi' h' r' R'
  unfold mrgV
  cases oa : skOk c s lo hi h r R with
  | false =>
    rw [oa] at ea
    rw [if_neg (by simp)]
    unfold spec_Merge.f
    exact Ev.bind ea (ev_neg (by simp) (ev_some rfl))
  | true =>
    cases ob : skOk c' s' lo' hi' h' r' R' with
    | false =>
      rw [oa] at ea
      rw [ob] at eb
      rw [if_neg (by simp)]
      unfold spec_Merge.f
      exact Ev.bind ea (ev_pos (by trivial) (Ev.bind eb (ev_neg (by simp) (ev_some rfl))))
    | true =>
      have ha := skOk_true.1 oa
      have hb := skOk_true.1 ob
      obtain ⟨p, q, rfl⟩ := two_rows ha.2.2.2.2.2.1
      obtain ⟨p', q', rfl⟩ := two_rows hb.2.2.2.2.2.1
      rw [if_pos ⟨rfl, rfl⟩]
      exact spec_merge_ev (a := ⟨c, s, lo, hi, h, r, p, q⟩) (b := ⟨c', s', lo', hi', h', r', p', q'⟩) (skOk_su ha) (skOk_su hb)
theorem mrgV_lens (c s lo hi : Int) (h r : List Int) (R : List (List Int)) (c' s' lo' hi' : Int) (h' r' : List Int) (R' : List (List Int)) {c1 s1 lo1 hi1 : Int} {h1 r1 : List Int} {R1 : List (List Int)} {t : Bool} (e : mrgV c s lo hi h r R c' s' lo' hi' h' r' R' = (c1, s1, lo1, hi1, h1, r1, R1, t)) (hx : ∀ x ∈ R, x.length ≤ 1048576) :
    h1.length ≤ h.length ∧ r1.length ≤ r.length ∧ R1.length ≤ R.length ∧ lensII R1 ≤ lensII R ∧ ∀ x ∈ R1, x.length ≤ 1048576 := by
  unfold mrgV at e
  by_cases ok : skOk c s lo hi h r R = true ∧ skOk c' s' lo' hi' h' r' R' = true
  · rw [if_pos ok] at e
    obtain ⟨p, q, rfl⟩ := two_rows (skOk_true.1 ok.1).2.2.2.2.2.1
    simp only [suOut, Su.mrg, Prod.mk.injEq] at e
    obtain ⟨_, _, _, _, rfl, rfl, rfl, _⟩ := e
    have hp := hx p (by simp)
    have hq := hx q (by simp)
    have r0 : rd_L1 [p, q] 0 = p := rfl
    have r1 : rd_L1 [p, q] 1 = q := rfl
    simp only [r0, r1, lensII, List.length_cons, List.length_nil, List.length_zipWith, List.mem_cons, List.not_mem_nil, or_false, forall_eq_or_imp, forall_eq]
    omega
  · rw [if_neg ok] at e
    simp only [Prod.mk.injEq] at e
    obtain ⟨_, _, _, _, rfl, rfl, rfl, _⟩ := e
    exact ⟨by simp, by simp, by simp, by simp [lensII], by simp⟩
set_option maxHeartbeats 32000000 in
set_option maxRecDepth 100000 in
theorem law0 (k : Nat) (V V' M M' M1 c s lo hi c' s' lo' hi' c1 s1 lo1 hi1 : Int) (t : Bool) (x y z x' y' z' : Sl) (h r h' r' h1 r1 : List Int) (R R' R1 : List (List Int)) (w : World) (u : Rd w x y z h r R) (u' : Rd w x' y' z' h' r' R')
    (SZ : Aside0 (laws_szSketch.f k c s lo hi h r R 1048576 = some V)) (hV : decide (V < 0) = false) (SZ' : Aside0 (laws_szSketch.f k c' s' lo' hi' h' r' R' V = some V')) (hV' : decide (V' < 0) = false)
    (TO : Aside0 (laws_toSketch.f k c s lo hi h r R = some (c, s, lo, hi, h, r, R))) (TO' : Aside0 (laws_toSketch.f k c' s' lo' hi' h' r' R' = some (c', s', lo', hi', h', r', R')))
    (SI : Aside0 (spec_Merge.f k c s lo hi h r R c' s' lo' hi' h' r' R' = some (c1, s1, lo1, hi1, h1, r1, R1, t))) (II : Aside0 (impl_Merge.f k c s lo hi h r R c' s' lo' hi' h' r' R' = some (c1, s1, lo1, hi1, h1, r1, R1, t)))
    (EQ : Aside0 (laws_eqSketch.f k c s lo hi h r R c s lo hi h r R = some true)) (EQ' : Aside0 (laws_eqSketch.f k c' s' lo' hi' h' r' R' c' s' lo' hi' h' r' R' = some true)) (EQ1 : Aside0 (laws_eqSketch.f k c1 s1 lo1 hi1 h1 r1 R1 c1 s1 lo1 hi1 h1 r1 R1 = some true))
    (MK : Aside0 (MkI k)) (LM : Aside0 ((1 : Int) + (h.length : Int) + (r.length : Int) + (lensII R : Nat) = M ∧ M ≤ 1073741824 ∧ h.length ≤ 1048576 ∧ r.length ≤ 1048576 ∧ R.length ≤ 1048576 ∧ ∀ l ∈ R, l.length ≤ 1048576)) (hM : 0 ≤ M) (LM' : Aside0 (M + (h'.length : Int) + (r'.length : Int) + (lensII R' : Nat) = M' ∧ M' ≤ 1073741824 ∧ h'.length ≤ 1048576 ∧ r'.length ≤ 1048576 ∧ R'.length ≤ 1048576 ∧ ∀ l ∈ R', l.length ≤ 1048576)) (hM' : decide (M' < 0) = false)
    (LM1 : Aside0 ((1 : Int) + (h1.length : Int) + (r1.length : Int) + (lensII R1 : Nat) = M1 ∧ M1 ≤ 1073741824 ∧ h1.length ≤ 1048576 ∧ r1.length ≤ 1048576 ∧ R1.length ≤ 1048576 ∧ ∀ l ∈ R1, l.length ≤ 1048576)) (hM1 : decide (M1 < 0) = false)
    (HE : Aside0 (laws_heldSketch.f k c1 s1 lo1 hi1 (marksI 1 h1.length) (marksI (1 + (h1.length : Int)) r1.length) (marksII (1 + (h1.length : Int) + (r1.length : Int)) R1) 1 = some M1)) :
    Calls Try.prog 4 #[.agg #[.int .i64 c, .int .i64 s, .int .i64 lo, .int .i64 hi, .slice x.A x.n x.c, .slice y.A y.n y.c, .slice z.A z.n z.c], .agg #[.int .i64 c', .int .i64 s', .int .i64 lo', .int .i64 hi', .slice x'.A x'.n x'.c, .slice y'.A y'.n y'.c, .slice z'.A z'.n z'.c]] w fun e w' => e = .returned (.bool true) ∧ Below w.heap.size w w' := by
  have U0 := Aside0.mk u
  have U1 := Aside0.mk u'
  clear u u'
  go_enter Try.func4, Try.ntmps4
  have HB_1 := Aside0.mk ((below_alloc (Below.refl _ w) (.cells #[.int .i64 c, .int .i64 s, .int .i64 lo, .int .i64 hi, .slice x.A x.n x.c, .slice y.A y.n y.c, .slice z.A z.n z.c] 35)))
  have Z_2 := Aside0.mk (show (w.alloc (.cells #[.int .i64 c, .int .i64 s, .int .i64 lo, .int .i64 hi, .slice x.A x.n x.c, .slice y.A y.n y.c, .slice z.A z.n z.c] 35)).heap.size = w.heap.size + 1 by simp)
  have arg_3 := Aside0.mk (Bx.new w 35 #[.int .i64 c, .int .i64 s, .int .i64 lo, .int .i64 hi, .slice x.A x.n x.c, .slice y.A y.n y.c, .slice z.A z.n z.c])
  have arg_4 := Aside0.mk (arg_3.out.below (below_alloc (Below.refl _ (w.alloc (.cells #[.int .i64 c, .int .i64 s, .int .i64 lo, .int .i64 hi, .slice x.A x.n x.c, .slice y.A y.n y.c, .slice z.A z.n z.c] 35))) (.cells #[.int .i64 c', .int .i64 s', .int .i64 lo', .int .i64 hi', .slice x'.A x'.n x'.c, .slice y'.A y'.n y'.c, .slice z'.A z'.n z'.c] 35)))
  have HB_5 := Aside0.mk (below_step HB_1.out (below_alloc (Below.refl _ (w.alloc (.cells #[.int .i64 c, .int .i64 s, .int .i64 lo, .int .i64 hi, .slice x.A x.n x.c, .slice y.A y.n y.c, .slice z.A z.n z.c] 35))) (.cells #[.int .i64 c', .int .i64 s', .int .i64 lo', .int .i64 hi', .slice x'.A x'.n x'.c, .slice y'.A y'.n y'.c, .slice z'.A z'.n z'.c] 35)))
  have Z_6 := Aside0.mk (show ((w.alloc (.cells #[.int .i64 c, .int .i64 s, .int .i64 lo, .int .i64 hi, .slice x.A x.n x.c, .slice y.A y.n y.c, .slice z.A z.n z.c] 35)).alloc (.cells #[.int .i64 c', .int .i64 s', .int .i64 lo', .int .i64 hi', .slice x'.A x'.n x'.c, .slice y'.A y'.n y'.c, .slice z'.A z'.n z'.c] 35)).heap.size = w.heap.size + 1 + 1 by simp)
  have brg_7 := Aside0.mk ((show Bx ((w.alloc (.cells #[.int .i64 c, .int .i64 s, .int .i64 lo, .int .i64 hi, .slice x.A x.n x.c, .slice y.A y.n y.c, .slice z.A z.n z.c] 35)).alloc (.cells #[.int .i64 c', .int .i64 s', .int .i64 lo', .int .i64 hi', .slice x'.A x'.n x'.c, .slice y'.A y'.n y'.c, .slice z'.A z'.n z'.c] 35)) (w.heap.size + 1) 35 #[.int .i64 c', .int .i64 s', .int .i64 lo', .int .i64 hi', .slice x'.A x'.n x'.c, .slice y'.A y'.n y'.c, .slice z'.A z'.n z'.c] from (show (w.alloc (.cells #[.int .i64 c, .int .i64 s, .int .i64 lo, .int .i64 hi, .slice x.A x.n x.c, .slice y.A y.n y.c, .slice z.A z.n z.c] 35)).heap.size = w.heap.size + 1 by simp) ▸ Bx.new (w.alloc (.cells #[.int .i64 c, .int .i64 s, .int .i64 lo, .int .i64 hi, .slice x.A x.n x.c, .slice y.A y.n y.c, .slice z.A z.n z.c] 35)) 35 #[.int .i64 c', .int .i64 s', .int .i64 lo', .int .i64 hi', .slice x'.A x'.n x'.c, .slice y'.A y'.n y'.c, .slice z'.A z'.n z'.c]))
  clear arg_3 HB_1
  go_wp2_with fail
  refine (sz_callD k c s lo hi 1048576 V (U0.out.below HB_5.out) SZ.out).mono ?_
  rintro e w1 ⟨rfl, hb⟩
  have arg_8 := Aside0.mk (arg_4.out.below hb)
  have brg_9 := Aside0.mk (brg_7.out.below hb)
  have HB_10 := Aside0.mk (below_step HB_5.out hb)
  have Z_11 := Aside0.mk (hb.size)
  clear arg_4 brg_7 HB_5 hb
  obtain ⟨brg11c0, brg11c1, brg11c2, brg11c3, brg11c4, brg11c5, brg11c6⟩ := brg_9.out.cells
  go_wp2_with fail
  clear brg11c0 brg11c1 brg11c2 brg11c3 brg11c4 brg11c5 brg11c6
  refine (sz_callD k c' s' lo' hi' V V' (U1.out.below HB_10.out) SZ'.out).mono ?_
  rintro e w2 ⟨rfl, hb⟩
  have arg_13 := Aside0.mk (arg_8.out.below hb)
  have brg_14 := Aside0.mk (brg_9.out.below hb)
  have HB_15 := Aside0.mk (below_step HB_10.out hb)
  have Z_16 := Aside0.mk (hb.size)
  clear arg_8 brg_9 HB_10 hb
  go_upto_region 8 with (fail)
  go_cut [6, 7] (fun v0 v1 wc => ∃ (gbw0 : Nat) (x2 : Sl) (y2 : Sl) (z2 : Sl) (a2 b2 : Nat), v0 = .pointer (some ⟨gbw0, 0, none⟩) ∧ v1 = .bool t ∧ Aside0 (Rk wc a2 b2 x2 y2 z2 h1 r1 R1 ∧ Bx wc gbw0 26 #[.int .i64 c1, .int .i64 s1, .int .i64 lo1, .int .i64 hi1, .slice x2.A x2.n x2.c, .slice y2.A y2.n y2.c, .slice z2.A z2.n z2.c] ∧ Below w2.heap.size w2 wc ∧ w2.heap.size ≤ gbw0 ∧ gbw0 < wc.heap.size ∧ w2.heap.size ≤ a2 ∧ a2 ≤ b2 ∧ b2 ≤ wc.heap.size))
  case first =>
    have LS := Aside0.mk (show ∀ w', Below w2.heap.size w2 w' → w'.cell? ⟨w.heap.size, 0, none⟩ = some (.int .i64 c) ∧ w'.cell? ⟨w.heap.size, 1, none⟩ = some (.int .i64 s) ∧ w'.cell? ⟨w.heap.size, 2, none⟩ = some (.int .i64 lo) ∧ w'.cell? ⟨w.heap.size, 3, none⟩ = some (.int .i64 hi) ∧ w'.cell? ⟨w.heap.size, 4, none⟩ = some (.slice x.A x.n x.c) ∧ w'.cell? ⟨w.heap.size, 5, none⟩ = some (.slice y.A y.n y.c) ∧ w'.cell? ⟨w.heap.size, 6, none⟩ = some (.slice z.A z.n z.c) ∧ w'.cell? ⟨w.heap.size + 1, 0, none⟩ = some (.int .i64 c') ∧ w'.cell? ⟨w.heap.size + 1, 1, none⟩ = some (.int .i64 s') ∧ w'.cell? ⟨w.heap.size + 1, 2, none⟩ = some (.int .i64 lo') ∧ w'.cell? ⟨w.heap.size + 1, 3, none⟩ = some (.int .i64 hi') ∧ w'.cell? ⟨w.heap.size + 1, 4, none⟩ = some (.slice x'.A x'.n x'.c) ∧ w'.cell? ⟨w.heap.size + 1, 5, none⟩ = some (.slice y'.A y'.n y'.c) ∧ w'.cell? ⟨w.heap.size + 1, 6, none⟩ = some (.slice z'.A z'.n z'.c) from fun w' F => by
      obtain ⟨argq0, argq1, argq2, argq3, argq4, argq5, argq6⟩ := (arg_13.out.below F).cells
      obtain ⟨brgq0, brgq1, brgq2, brgq3, brgq4, brgq5, brgq6⟩ := (brg_14.out.below F).cells
      exact ⟨argq0, argq1, argq2, argq3, argq4, argq5, argq6, brgq0, brgq1, brgq2, brgq3, brgq4, brgq5, brgq6⟩)
    have UA_ := Aside0.mk (U0.out.below HB_15.out)
    have UB_ := Aside0.mk (U1.out.below HB_15.out)
    have HQ0 := Aside0.mk (show Below w2.heap.size w2 w2.drew from below_drew (Below.refl _ _))
    go_region_held3 (fun w' => w'.cell? ⟨w.heap.size, 0, none⟩ = some (.int .i64 c) ∧ w'.cell? ⟨w.heap.size, 1, none⟩ = some (.int .i64 s) ∧ w'.cell? ⟨w.heap.size, 2, none⟩ = some (.int .i64 lo) ∧ w'.cell? ⟨w.heap.size, 3, none⟩ = some (.int .i64 hi) ∧ w'.cell? ⟨w.heap.size, 4, none⟩ = some (.slice x.A x.n x.c) ∧ w'.cell? ⟨w.heap.size, 5, none⟩ = some (.slice y.A y.n y.c) ∧ w'.cell? ⟨w.heap.size, 6, none⟩ = some (.slice z.A z.n z.c) ∧ w'.cell? ⟨w.heap.size + 1, 0, none⟩ = some (.int .i64 c') ∧ w'.cell? ⟨w.heap.size + 1, 1, none⟩ = some (.int .i64 s') ∧ w'.cell? ⟨w.heap.size + 1, 2, none⟩ = some (.int .i64 lo') ∧ w'.cell? ⟨w.heap.size + 1, 3, none⟩ = some (.int .i64 hi') ∧ w'.cell? ⟨w.heap.size + 1, 4, none⟩ = some (.slice x'.A x'.n x'.c) ∧ w'.cell? ⟨w.heap.size + 1, 5, none⟩ = some (.slice y'.A y'.n y'.c) ∧ w'.cell? ⟨w.heap.size + 1, 6, none⟩ = some (.slice z'.A z'.n z'.c)) (first | with_reducible exact FL.out _ _ _ _ _ _ _ | with_reducible exact LS.out _ HQ0.out | with_reducible exact LS.out _ (below_drew (below_alloc (Below.refl _ _) _)) | with_reducible exact LS.out _ (below_step HQ0.out (below_alloc (Below.refl _ _) _)) | with_reducible exact LS.out _ HQ1.out | with_reducible exact LS.out _ (below_step HQ1.out (below_alloc (Below.refl _ _) _)) | with_reducible exact LS.out _ HQ2.out | with_reducible exact LS.out _ (below_step HQ2.out (below_alloc (Below.refl _ _) _)) | with_reducible exact LS.out _ HQ3.out | with_reducible exact LS.out _ (below_step HQ3.out (below_alloc (Below.refl _ _) _)) | with_reducible exact LS.out _ (below_kp (below_step HQ3.out (below_alloc (Below.refl _ _) _)) ((Bx.new wq3 26 #[.int .i64 0, .int .i64 0, .int .i64 0, .int .i64 0, .slice none 0 0, .slice none 0 0, .slice none 0 0]).fill _ _ _ _ _ _ _).2 HQ3.out.size (Nat.le_trans HQ3.out.size (sz_up _ _)))) (first | (go_at_call 19; (with_reducible refine (to_callD k c s lo hi (by first | exact UA_.out.below HQ0.out | exact UA_.out.below (below_drew (below_alloc (Below.refl _ _) _))) TO.out).mono ?_); rintro e wq1 ⟨x21, y21, z21, a21, b21, rfl, hs, hm, hb⟩; (first | ((with_reducible have hz_ := reg_new HQ0.out hb hm); obtain ⟨hq, hy, hn, hp⟩ := hz_; have Y1 := Aside0.mk hy; have HQ1 := Aside0.mk hq; have M1 := Aside0.mk hn; have HP1 := Aside0.mk hp; clear hq hy hn hp) | ((with_reducible have hz_ := reg_new0 hb hm); obtain ⟨hq, hy, hn, hp⟩ := hz_; have Y1 := Aside0.mk hy; have HQ1 := Aside0.mk hq; have M1 := Aside0.mk hn; have HP1 := Aside0.mk hp; clear hq hy hn hp) | ((with_reducible have HQ1 := Aside0.mk (below_step HQ0.out hb)); have M1 := Aside0.mk hm; have HP1 := Aside0.mk hb)); have S21 := Aside0.mk hs; clear hs hm hb) | (go_at_call 19; (with_reducible refine (to_callD k c' s' lo' hi' (by first | exact UB_.out.below HQ1.out | exact UB_.out.below (below_step HQ1.out (below_alloc (Below.refl _ _) _))) TO'.out).mono ?_); rintro e wq2 ⟨x22, y22, z22, a22, b22, rfl, hs, hm, hb⟩; (first | ((with_reducible have hz_ := reg_new HQ1.out hb hm); obtain ⟨hq, hy, hn, hp⟩ := hz_; have Y2 := Aside0.mk hy; have HQ2 := Aside0.mk hq; have M2 := Aside0.mk hn; have HP2 := Aside0.mk hp; clear hq hy hn hp) | ((with_reducible have hz_ := reg_old HQ1.out Y1.out hb hm); obtain ⟨hq, hy⟩ := hz_; have Y2 := Aside0.mk hy; have HQ2 := Aside0.mk hq; have M2 := Aside0.mk hm; have HP2 := Aside0.mk hb; clear hq hy) | ((with_reducible have HQ2 := Aside0.mk (below_step HQ1.out hb)); have M2 := Aside0.mk hm; have HP2 := Aside0.mk hb)); have S22 := Aside0.mk hs; clear hs hm hb; replace S21 := Aside0.mk (S21.out.below HP2.out)) | (go_at_call 18; (with_reducible refine (specM_callD k c s lo hi c' s' lo' hi' c1 s1 lo1 hi1 h1 r1 R1 t (by first | exact S21.out.rd | exact (S21.out.below (below_alloc (Below.refl _ _) _)).rd) (by first | exact S22.out.rd | exact (S22.out.below (below_alloc (Below.refl _ _) _)).rd) SI.out).mono ?_); rintro e wq3 ⟨x2, y2, z2, a2, b2, rfl, hs, hm, hb⟩; (first | ((with_reducible have hz_ := reg_new HQ2.out hb hm); obtain ⟨hq, hy, hn, hp⟩ := hz_; have Y3 := Aside0.mk hy; have HQ3 := Aside0.mk hq; have M3 := Aside0.mk hn; have HP3 := Aside0.mk hp; clear hq hy hn hp) | ((with_reducible have hz_ := reg_old HQ2.out Y2.out hb hm); obtain ⟨hq, hy⟩ := hz_; have Y3 := Aside0.mk hy; have HQ3 := Aside0.mk hq; have M3 := Aside0.mk hm; have HP3 := Aside0.mk hb; clear hq hy) | ((with_reducible have HQ3 := Aside0.mk (below_step HQ2.out hb)); have M3 := Aside0.mk hm; have HP3 := Aside0.mk hb)); have w0 := Aside0.mk hs; clear hs hm hb; replace S21 := Aside0.mk (S21.out.below HP3.out); replace S22 := Aside0.mk (S22.out.below HP3.out); (first | (obtain ⟨cz0, cz1, cz2, cz3, cz4, cz5, cz6⟩ := Y3.out.bx.cells; have cf := fun i => Bx.fz Y3.out.bx i; have FL := Aside0.mk (fun u0_ u1_ u2_ u3_ u4_ u5_ u6_ => LS.out _ (below_kp HQ3.out (Y3.out.bx.fill u0_ u1_ u2_ u3_ u4_ u5_ u6_).2 Y3.out.lo HQ3.out.size))) | skip)))
    all_goals
      refine Met.intro ?_
      go_step
      go_meet
      case rel =>
        first | (have FE := fun u0_ u1_ u2_ u3_ u4_ u5_ u6_ => reg_end_rk HQ3.out Y3.out ⟨Nat.le_trans (Nat.le_trans HQ2.out.size (Nat.le_refl _)) M3.out.1, M3.out.2⟩ w0.out (Y3.out.bx.fill u0_ u1_ u2_ u3_ u4_ u5_ u6_); refine ⟨_, x2, y2, z2, a2, b2, rfl, rfl, ⟨?_⟩⟩; exact FE (.int .i64 c1) (.int .i64 s1) (.int .i64 lo1) (.int .i64 hi1) (.slice x2.A x2.n x2.c) (.slice y2.A y2.n y2.c) (.slice z2.A z2.n z2.c)) | (have FE := reg_last_rk #[.int .i64 c1, .int .i64 s1, .int .i64 lo1, .int .i64 hi1, .slice x2.A x2.n x2.c, .slice y2.A y2.n y2.c, .slice z2.A z2.n z2.c] 26 HQ3.out ⟨Nat.le_trans (Nat.le_trans HQ2.out.size (Nat.le_refl _)) M3.out.1, M3.out.2⟩ w0.out; refine ⟨_, x2, y2, z2, a2, b2, rfl, rfl, ⟨?_⟩⟩; exact FE)
  case rest =>
  obtain ⟨gbw0, x2, y2, z2, a2, b2, rfl, rfl, ⟨hs, hx, hb, hz1, hz2, hz3, hz4, hz5⟩⟩ := hcut
  generalize wc = wc17 at *
  have w0_18 := Aside0.mk hs
  clear hs
  have bw0_19 := Aside0.mk hx
  clear hx
  have Z_20 := Aside0.mk hz1
  clear hz1
  have Z_21 := Aside0.mk hz2
  clear hz2
  have Z_22 := Aside0.mk hz3
  clear hz3
  have Z_23 := Aside0.mk hz4
  clear hz4
  have Z_24 := Aside0.mk hz5
  clear hz5
  have arg_25 := Aside0.mk (arg_13.out.below hb)
  have brg_26 := Aside0.mk (brg_14.out.below hb)
  have HB_27 := Aside0.mk (below_step HB_15.out hb)
  have Z_28 := Aside0.mk (hb.size)
  clear arg_13 brg_14 HB_15 hb
  obtain ⟨arg28c0, arg28c1, arg28c2, arg28c3, arg28c4, arg28c5, arg28c6⟩ := arg_25.out.cells
  go_wp2_with fail
  clear arg28c0 arg28c1 arg28c2 arg28c3 arg28c4 arg28c5 arg28c6
  refine (to_callD k c s lo hi (U0.out.below HB_27.out) TO.out).mono ?_
  rintro e w3 ⟨x3, y3, z3, a3, b3, rfl, hs, hm, hb⟩
  have S3_30 := Aside0.mk hs
  clear hs
  have Z_31 := Aside0.mk hm
  clear hm
  unfold Made at Z_31
  have arg_32 := Aside0.mk (arg_25.out.below hb)
  have brg_33 := Aside0.mk (brg_26.out.below hb)
  have w0_34 := Aside0.mk (w0_18.out.below hb)
  have bw0_35 := Aside0.mk (bw0_19.out.below hb)
  have HB_36 := Aside0.mk (below_step HB_27.out hb)
  have Z_37 := Aside0.mk (hb.size)
  clear arg_25 brg_26 w0_18 bw0_19 HB_27 hb
  have arg_38 := Aside0.mk (arg_32.out.below (below_alloc (Below.refl _ w3) (.cells #[.int .i64 c, .int .i64 s, .int .i64 lo, .int .i64 hi, .slice x3.A x3.n x3.c, .slice y3.A y3.n y3.c, .slice z3.A z3.n z3.c] 26)))
  have brg_39 := Aside0.mk (brg_33.out.below (below_alloc (Below.refl _ w3) (.cells #[.int .i64 c, .int .i64 s, .int .i64 lo, .int .i64 hi, .slice x3.A x3.n x3.c, .slice y3.A y3.n y3.c, .slice z3.A z3.n z3.c] 26)))
  have w0_40 := Aside0.mk (w0_34.out.below (below_alloc (Below.refl _ w3) (.cells #[.int .i64 c, .int .i64 s, .int .i64 lo, .int .i64 hi, .slice x3.A x3.n x3.c, .slice y3.A y3.n y3.c, .slice z3.A z3.n z3.c] 26)))
  have bw0_41 := Aside0.mk (bw0_35.out.below (below_alloc (Below.refl _ w3) (.cells #[.int .i64 c, .int .i64 s, .int .i64 lo, .int .i64 hi, .slice x3.A x3.n x3.c, .slice y3.A y3.n y3.c, .slice z3.A z3.n z3.c] 26)))
  have S3_42 := Aside0.mk (S3_30.out.below (below_alloc (Below.refl _ w3) (.cells #[.int .i64 c, .int .i64 s, .int .i64 lo, .int .i64 hi, .slice x3.A x3.n x3.c, .slice y3.A y3.n y3.c, .slice z3.A z3.n z3.c] 26)))
  have HB_43 := Aside0.mk (below_step HB_36.out (below_alloc (Below.refl _ w3) (.cells #[.int .i64 c, .int .i64 s, .int .i64 lo, .int .i64 hi, .slice x3.A x3.n x3.c, .slice y3.A y3.n y3.c, .slice z3.A z3.n z3.c] 26)))
  have Z_44 := Aside0.mk (show (w3.alloc (.cells #[.int .i64 c, .int .i64 s, .int .i64 lo, .int .i64 hi, .slice x3.A x3.n x3.c, .slice y3.A y3.n y3.c, .slice z3.A z3.n z3.c] 26)).heap.size = w3.heap.size + 1 by simp)
  have x0_45 := Aside0.mk (Bx.new w3 26 #[.int .i64 c, .int .i64 s, .int .i64 lo, .int .i64 hi, .slice x3.A x3.n x3.c, .slice y3.A y3.n y3.c, .slice z3.A z3.n z3.c])
  clear arg_32 brg_33 w0_34 bw0_35 S3_30 HB_36
  obtain ⟨brg45c0, brg45c1, brg45c2, brg45c3, brg45c4, brg45c5, brg45c6⟩ := brg_39.out.cells
  go_wp2_with fail
  clear brg45c0 brg45c1 brg45c2 brg45c3 brg45c4 brg45c5 brg45c6
  refine (to_callD k c' s' lo' hi' (U1.out.below HB_43.out) TO'.out).mono ?_
  rintro e w4 ⟨x4, y4, z4, a4, b4, rfl, hs, hm, hb⟩
  have S4_47 := Aside0.mk hs
  clear hs
  have Z_48 := Aside0.mk hm
  clear hm
  unfold Made at Z_48
  have arg_49 := Aside0.mk (arg_38.out.below hb)
  have brg_50 := Aside0.mk (brg_39.out.below hb)
  have w0_51 := Aside0.mk (w0_40.out.below hb)
  have bw0_52 := Aside0.mk (bw0_41.out.below hb)
  have S3_53 := Aside0.mk (S3_42.out.below hb)
  have x0_54 := Aside0.mk (x0_45.out.below hb)
  have HB_55 := Aside0.mk (below_step HB_43.out hb)
  have Z_56 := Aside0.mk (hb.size)
  clear arg_38 brg_39 w0_40 bw0_41 S3_42 x0_45 HB_43 hb
  have arg_57 := Aside0.mk (arg_49.out.below (below_alloc (Below.refl _ w4) (.cells #[.int .i64 c', .int .i64 s', .int .i64 lo', .int .i64 hi', .slice x4.A x4.n x4.c, .slice y4.A y4.n y4.c, .slice z4.A z4.n z4.c] 26)))
  have brg_58 := Aside0.mk (brg_50.out.below (below_alloc (Below.refl _ w4) (.cells #[.int .i64 c', .int .i64 s', .int .i64 lo', .int .i64 hi', .slice x4.A x4.n x4.c, .slice y4.A y4.n y4.c, .slice z4.A z4.n z4.c] 26)))
  have w0_59 := Aside0.mk (w0_51.out.below (below_alloc (Below.refl _ w4) (.cells #[.int .i64 c', .int .i64 s', .int .i64 lo', .int .i64 hi', .slice x4.A x4.n x4.c, .slice y4.A y4.n y4.c, .slice z4.A z4.n z4.c] 26)))
  have bw0_60 := Aside0.mk (bw0_52.out.below (below_alloc (Below.refl _ w4) (.cells #[.int .i64 c', .int .i64 s', .int .i64 lo', .int .i64 hi', .slice x4.A x4.n x4.c, .slice y4.A y4.n y4.c, .slice z4.A z4.n z4.c] 26)))
  have S3_61 := Aside0.mk (S3_53.out.below (below_alloc (Below.refl _ w4) (.cells #[.int .i64 c', .int .i64 s', .int .i64 lo', .int .i64 hi', .slice x4.A x4.n x4.c, .slice y4.A y4.n y4.c, .slice z4.A z4.n z4.c] 26)))
  have x0_62 := Aside0.mk (x0_54.out.below (below_alloc (Below.refl _ w4) (.cells #[.int .i64 c', .int .i64 s', .int .i64 lo', .int .i64 hi', .slice x4.A x4.n x4.c, .slice y4.A y4.n y4.c, .slice z4.A z4.n z4.c] 26)))
  have S4_63 := Aside0.mk (S4_47.out.below (below_alloc (Below.refl _ w4) (.cells #[.int .i64 c', .int .i64 s', .int .i64 lo', .int .i64 hi', .slice x4.A x4.n x4.c, .slice y4.A y4.n y4.c, .slice z4.A z4.n z4.c] 26)))
  have HB_64 := Aside0.mk (below_step HB_55.out (below_alloc (Below.refl _ w4) (.cells #[.int .i64 c', .int .i64 s', .int .i64 lo', .int .i64 hi', .slice x4.A x4.n x4.c, .slice y4.A y4.n y4.c, .slice z4.A z4.n z4.c] 26)))
  have Z_65 := Aside0.mk (show (w4.alloc (.cells #[.int .i64 c', .int .i64 s', .int .i64 lo', .int .i64 hi', .slice x4.A x4.n x4.c, .slice y4.A y4.n y4.c, .slice z4.A z4.n z4.c] 26)).heap.size = w4.heap.size + 1 by simp)
  have x1_66 := Aside0.mk (Bx.new w4 26 #[.int .i64 c', .int .i64 s', .int .i64 lo', .int .i64 hi', .slice x4.A x4.n x4.c, .slice y4.A y4.n y4.c, .slice z4.A z4.n z4.c])
  clear arg_49 brg_50 w0_51 bw0_52 S3_53 x0_54 S4_47 HB_55
  obtain ⟨x066c0, x066c1, x066c2, x066c3, x066c4, x066c5, x066c6⟩ := x0_62.out.cells
  go_wp2_with fail
  clear x066c0 x066c1 x066c2 x066c3 x066c4 x066c5 x066c6
  refine (implM_callD k c s lo hi c' s' lo' hi' c1 s1 lo1 hi1 h1 r1 R1 t S3_61.out.rd S4_63.out.rd II.out).mono ?_
  rintro e w5 ⟨x5, y5, z5, a5, b5, rfl, hs, hm, hb⟩
  have g0_68 := Aside0.mk hs
  clear hs
  have Z_69 := Aside0.mk hm
  clear hm
  unfold Made at Z_69
  have arg_70 := Aside0.mk (arg_57.out.below hb)
  have brg_71 := Aside0.mk (brg_58.out.below hb)
  have w0_72 := Aside0.mk (w0_59.out.below hb)
  have bw0_73 := Aside0.mk (bw0_60.out.below hb)
  have S3_74 := Aside0.mk (S3_61.out.below hb)
  have x0_75 := Aside0.mk (x0_62.out.below hb)
  have S4_76 := Aside0.mk (S4_63.out.below hb)
  have x1_77 := Aside0.mk (x1_66.out.below hb)
  have HB_78 := Aside0.mk (below_step HB_64.out hb)
  have Z_79 := Aside0.mk (hb.size)
  clear arg_57 brg_58 w0_59 bw0_60 S3_61 x0_62 S4_63 x1_66 HB_64 hb
  have arg_80 := Aside0.mk (arg_70.out.below (below_alloc (Below.refl _ w5) (.cells #[.int .i64 c1, .int .i64 s1, .int .i64 lo1, .int .i64 hi1, .slice x5.A x5.n x5.c, .slice y5.A y5.n y5.c, .slice z5.A z5.n z5.c] 26)))
  have brg_81 := Aside0.mk (brg_71.out.below (below_alloc (Below.refl _ w5) (.cells #[.int .i64 c1, .int .i64 s1, .int .i64 lo1, .int .i64 hi1, .slice x5.A x5.n x5.c, .slice y5.A y5.n y5.c, .slice z5.A z5.n z5.c] 26)))
  have w0_82 := Aside0.mk (w0_72.out.below (below_alloc (Below.refl _ w5) (.cells #[.int .i64 c1, .int .i64 s1, .int .i64 lo1, .int .i64 hi1, .slice x5.A x5.n x5.c, .slice y5.A y5.n y5.c, .slice z5.A z5.n z5.c] 26)))
  have bw0_83 := Aside0.mk (bw0_73.out.below (below_alloc (Below.refl _ w5) (.cells #[.int .i64 c1, .int .i64 s1, .int .i64 lo1, .int .i64 hi1, .slice x5.A x5.n x5.c, .slice y5.A y5.n y5.c, .slice z5.A z5.n z5.c] 26)))
  have S3_84 := Aside0.mk (S3_74.out.below (below_alloc (Below.refl _ w5) (.cells #[.int .i64 c1, .int .i64 s1, .int .i64 lo1, .int .i64 hi1, .slice x5.A x5.n x5.c, .slice y5.A y5.n y5.c, .slice z5.A z5.n z5.c] 26)))
  have x0_85 := Aside0.mk (x0_75.out.below (below_alloc (Below.refl _ w5) (.cells #[.int .i64 c1, .int .i64 s1, .int .i64 lo1, .int .i64 hi1, .slice x5.A x5.n x5.c, .slice y5.A y5.n y5.c, .slice z5.A z5.n z5.c] 26)))
  have S4_86 := Aside0.mk (S4_76.out.below (below_alloc (Below.refl _ w5) (.cells #[.int .i64 c1, .int .i64 s1, .int .i64 lo1, .int .i64 hi1, .slice x5.A x5.n x5.c, .slice y5.A y5.n y5.c, .slice z5.A z5.n z5.c] 26)))
  have x1_87 := Aside0.mk (x1_77.out.below (below_alloc (Below.refl _ w5) (.cells #[.int .i64 c1, .int .i64 s1, .int .i64 lo1, .int .i64 hi1, .slice x5.A x5.n x5.c, .slice y5.A y5.n y5.c, .slice z5.A z5.n z5.c] 26)))
  have g0_88 := Aside0.mk (g0_68.out.below (below_alloc (Below.refl _ w5) (.cells #[.int .i64 c1, .int .i64 s1, .int .i64 lo1, .int .i64 hi1, .slice x5.A x5.n x5.c, .slice y5.A y5.n y5.c, .slice z5.A z5.n z5.c] 26)))
  have HB_89 := Aside0.mk (below_step HB_78.out (below_alloc (Below.refl _ w5) (.cells #[.int .i64 c1, .int .i64 s1, .int .i64 lo1, .int .i64 hi1, .slice x5.A x5.n x5.c, .slice y5.A y5.n y5.c, .slice z5.A z5.n z5.c] 26)))
  have Z_90 := Aside0.mk (show (w5.alloc (.cells #[.int .i64 c1, .int .i64 s1, .int .i64 lo1, .int .i64 hi1, .slice x5.A x5.n x5.c, .slice y5.A y5.n y5.c, .slice z5.A z5.n z5.c] 26)).heap.size = w5.heap.size + 1 by simp)
  have bg0_91 := Aside0.mk (Bx.new w5 26 #[.int .i64 c1, .int .i64 s1, .int .i64 lo1, .int .i64 hi1, .slice x5.A x5.n x5.c, .slice y5.A y5.n y5.c, .slice z5.A z5.n z5.c])
  clear arg_70 brg_71 w0_72 bw0_73 S3_74 x0_75 S4_76 x1_77 g0_68 HB_78
  obtain ⟨bg091c0, bg091c1, bg091c2, bg091c3, bg091c4, bg091c5, bg091c6⟩ := bg0_91.out.cells
  obtain ⟨bw092c0, bw092c1, bw092c2, bw092c3, bw092c4, bw092c5, bw092c6⟩ := bw0_83.out.cells
  go_wp2_with fail
  clear bg091c0 bg091c1 bg091c2 bg091c3 bg091c4 bg091c5 bg091c6 bw092c0 bw092c1 bw092c2 bw092c3 bw092c4 bw092c5 bw092c6
  refine (eq_callD k c1 s1 lo1 hi1 g0_88.out.rd w0_82.out.rd EQ1.out).mono ?_
  rintro e w6 ⟨rfl, hb⟩
  have arg_94 := Aside0.mk (arg_80.out.below hb)
  have brg_95 := Aside0.mk (brg_81.out.below hb)
  have w0_96 := Aside0.mk (w0_82.out.below hb)
  have bw0_97 := Aside0.mk (bw0_83.out.below hb)
  have S3_98 := Aside0.mk (S3_84.out.below hb)
  have x0_99 := Aside0.mk (x0_85.out.below hb)
  have S4_100 := Aside0.mk (S4_86.out.below hb)
  have x1_101 := Aside0.mk (x1_87.out.below hb)
  have g0_102 := Aside0.mk (g0_88.out.below hb)
  have bg0_103 := Aside0.mk (bg0_91.out.below hb)
  have HB_104 := Aside0.mk (below_step HB_89.out hb)
  have Z_105 := Aside0.mk (hb.size)
  clear arg_80 brg_81 w0_82 bw0_83 S3_84 x0_85 S4_86 x1_87 g0_88 bg0_91 HB_89 hb
  obtain ⟨x0105c0, x0105c1, x0105c2, x0105c3, x0105c4, x0105c5, x0105c6⟩ := x0_99.out.cells
  obtain ⟨arg106c0, arg106c1, arg106c2, arg106c3, arg106c4, arg106c5, arg106c6⟩ := arg_94.out.cells
  go_wp2_with fail
  have arg_108 := Aside0.mk (arg_94.out.below (below_drew (Below.refl _ w6)))
  have brg_109 := Aside0.mk (brg_95.out.below (below_drew (Below.refl _ w6)))
  have w0_110 := Aside0.mk (w0_96.out.below (below_drew (Below.refl _ w6)))
  have bw0_111 := Aside0.mk (bw0_97.out.below (below_drew (Below.refl _ w6)))
  have S3_112 := Aside0.mk (S3_98.out.below (below_drew (Below.refl _ w6)))
  have x0_113 := Aside0.mk (x0_99.out.below (below_drew (Below.refl _ w6)))
  have S4_114 := Aside0.mk (S4_100.out.below (below_drew (Below.refl _ w6)))
  have x1_115 := Aside0.mk (x1_101.out.below (below_drew (Below.refl _ w6)))
  have g0_116 := Aside0.mk (g0_102.out.below (below_drew (Below.refl _ w6)))
  have bg0_117 := Aside0.mk (bg0_103.out.below (below_drew (Below.refl _ w6)))
  have HB_118 := Aside0.mk (below_step HB_104.out (below_drew (Below.refl _ w6)))
  have Z_119 := Aside0.mk (show w6.drew.heap.size = w6.heap.size by simp)
  clear arg_94 brg_95 w0_96 bw0_97 S3_98 x0_99 S4_100 x1_101 g0_102 bg0_103 HB_104
  go_region_held3 (fun w' => w'.cell? ⟨w3.heap.size, 0, none⟩ = some (.int .i64 c) ∧ w'.cell? ⟨w3.heap.size, 1, none⟩ = some (.int .i64 s) ∧ w'.cell? ⟨w3.heap.size, 2, none⟩ = some (.int .i64 lo) ∧ w'.cell? ⟨w3.heap.size, 3, none⟩ = some (.int .i64 hi) ∧ w'.cell? ⟨w3.heap.size, 4, none⟩ = some (.slice x3.A x3.n x3.c) ∧ w'.cell? ⟨w3.heap.size, 5, none⟩ = some (.slice y3.A y3.n y3.c) ∧ w'.cell? ⟨w3.heap.size, 6, none⟩ = some (.slice z3.A z3.n z3.c) ∧ w'.cell? ⟨w.heap.size, 0, none⟩ = some (.int .i64 c) ∧ w'.cell? ⟨w.heap.size, 1, none⟩ = some (.int .i64 s) ∧ w'.cell? ⟨w.heap.size, 2, none⟩ = some (.int .i64 lo) ∧ w'.cell? ⟨w.heap.size, 3, none⟩ = some (.int .i64 hi) ∧ w'.cell? ⟨w.heap.size, 4, none⟩ = some (.slice x.A x.n x.c) ∧ w'.cell? ⟨w.heap.size, 5, none⟩ = some (.slice y.A y.n y.c) ∧ w'.cell? ⟨w.heap.size, 6, none⟩ = some (.slice z.A z.n z.c)) (first | go_keep | exact ⟨x0133c0, x0133c1, x0133c2, x0133c3, x0133c4, x0133c5, x0133c6, arg134c0, arg134c1, arg134c2, arg134c3, arg134c4, arg134c5, arg134c6⟩ | exact ⟨x0148c0, x0148c1, x0148c2, x0148c3, x0148c4, x0148c5, x0148c6, arg149c0, arg149c1, arg149c2, arg149c3, arg149c4, arg149c5, arg149c6⟩) (first | (go_at_call 19; refine (to_callD k c s lo hi (U0.out.below HB_118.out) TO.out).mono ?_; rintro e w7 ⟨x6, y6, z6, a6, b6, rfl, hs, hm, hb⟩; have S6_120 := Aside0.mk hs; clear hs; have Z_121 := Aside0.mk hm; clear hm; unfold Made at Z_121; have arg_122 := Aside0.mk (arg_108.out.below hb); have brg_123 := Aside0.mk (brg_109.out.below hb); have w0_124 := Aside0.mk (w0_110.out.below hb); have bw0_125 := Aside0.mk (bw0_111.out.below hb); have S3_126 := Aside0.mk (S3_112.out.below hb); have x0_127 := Aside0.mk (x0_113.out.below hb); have S4_128 := Aside0.mk (S4_114.out.below hb); have x1_129 := Aside0.mk (x1_115.out.below hb); have g0_130 := Aside0.mk (g0_116.out.below hb); have bg0_131 := Aside0.mk (bg0_117.out.below hb); have HB_132 := Aside0.mk (below_step HB_118.out hb); have Z_133 := Aside0.mk (hb.size); clear arg_108 brg_109 w0_110 bw0_111 S3_112 x0_113 S4_114 x1_115 g0_116 bg0_117 HB_118 hb; obtain ⟨x0133c0, x0133c1, x0133c2, x0133c3, x0133c4, x0133c5, x0133c6⟩ := x0_127.out.cells; obtain ⟨arg134c0, arg134c1, arg134c2, arg134c3, arg134c4, arg134c5, arg134c6⟩ := arg_122.out.cells) | (go_at_call 12; refine (eq_callD k c s lo hi S3_126.out.rd S6_120.out.rd EQ.out).mono ?_; rintro e w8 ⟨rfl, hb⟩; have arg_136 := Aside0.mk (arg_122.out.below hb); have brg_137 := Aside0.mk (brg_123.out.below hb); have w0_138 := Aside0.mk (w0_124.out.below hb); have bw0_139 := Aside0.mk (bw0_125.out.below hb); have S3_140 := Aside0.mk (S3_126.out.below hb); have x0_141 := Aside0.mk (x0_127.out.below hb); have S4_142 := Aside0.mk (S4_128.out.below hb); have x1_143 := Aside0.mk (x1_129.out.below hb); have g0_144 := Aside0.mk (g0_130.out.below hb); have bg0_145 := Aside0.mk (bg0_131.out.below hb); have S6_146 := Aside0.mk (S6_120.out.below hb); have HB_147 := Aside0.mk (below_step HB_132.out hb); have Z_148 := Aside0.mk (hb.size); clear arg_122 brg_123 w0_124 bw0_125 S3_126 x0_127 S4_128 x1_129 g0_130 bg0_131 S6_120 HB_132 hb; obtain ⟨x0148c0, x0148c1, x0148c2, x0148c3, x0148c4, x0148c5, x0148c6⟩ := x0_141.out.cells; obtain ⟨arg149c0, arg149c1, arg149c2, arg149c3, arg149c4, arg149c5, arg149c6⟩ := arg_136.out.cells))
  try clear x0148c0 x0148c1 x0148c2 x0148c3 x0148c4 x0148c5 x0148c6 arg149c0 arg149c1 arg149c2 arg149c3 arg149c4 arg149c5 arg149c6
  clear S6_146
  obtain ⟨x1150c0, x1150c1, x1150c2, x1150c3, x1150c4, x1150c5, x1150c6⟩ := x1_143.out.cells
  obtain ⟨brg151c0, brg151c1, brg151c2, brg151c3, brg151c4, brg151c5, brg151c6⟩ := brg_137.out.cells
  go_wp2_with fail
  have arg_153 := Aside0.mk (arg_136.out.below (below_drew (Below.refl _ w8)))
  have brg_154 := Aside0.mk (brg_137.out.below (below_drew (Below.refl _ w8)))
  have w0_155 := Aside0.mk (w0_138.out.below (below_drew (Below.refl _ w8)))
  have bw0_156 := Aside0.mk (bw0_139.out.below (below_drew (Below.refl _ w8)))
  have S3_157 := Aside0.mk (S3_140.out.below (below_drew (Below.refl _ w8)))
  have x0_158 := Aside0.mk (x0_141.out.below (below_drew (Below.refl _ w8)))
  have S4_159 := Aside0.mk (S4_142.out.below (below_drew (Below.refl _ w8)))
  have x1_160 := Aside0.mk (x1_143.out.below (below_drew (Below.refl _ w8)))
  have g0_161 := Aside0.mk (g0_144.out.below (below_drew (Below.refl _ w8)))
  have bg0_162 := Aside0.mk (bg0_145.out.below (below_drew (Below.refl _ w8)))
  have HB_163 := Aside0.mk (below_step HB_147.out (below_drew (Below.refl _ w8)))
  have Z_164 := Aside0.mk (show w8.drew.heap.size = w8.heap.size by simp)
  clear arg_136 brg_137 w0_138 bw0_139 S3_140 x0_141 S4_142 x1_143 g0_144 bg0_145 HB_147
  go_region_held3 (fun w' => w'.cell? ⟨w4.heap.size, 0, none⟩ = some (.int .i64 c') ∧ w'.cell? ⟨w4.heap.size, 1, none⟩ = some (.int .i64 s') ∧ w'.cell? ⟨w4.heap.size, 2, none⟩ = some (.int .i64 lo') ∧ w'.cell? ⟨w4.heap.size, 3, none⟩ = some (.int .i64 hi') ∧ w'.cell? ⟨w4.heap.size, 4, none⟩ = some (.slice x4.A x4.n x4.c) ∧ w'.cell? ⟨w4.heap.size, 5, none⟩ = some (.slice y4.A y4.n y4.c) ∧ w'.cell? ⟨w4.heap.size, 6, none⟩ = some (.slice z4.A z4.n z4.c) ∧ w'.cell? ⟨w.heap.size + 1, 0, none⟩ = some (.int .i64 c') ∧ w'.cell? ⟨w.heap.size + 1, 1, none⟩ = some (.int .i64 s') ∧ w'.cell? ⟨w.heap.size + 1, 2, none⟩ = some (.int .i64 lo') ∧ w'.cell? ⟨w.heap.size + 1, 3, none⟩ = some (.int .i64 hi') ∧ w'.cell? ⟨w.heap.size + 1, 4, none⟩ = some (.slice x'.A x'.n x'.c) ∧ w'.cell? ⟨w.heap.size + 1, 5, none⟩ = some (.slice y'.A y'.n y'.c) ∧ w'.cell? ⟨w.heap.size + 1, 6, none⟩ = some (.slice z'.A z'.n z'.c)) (first | go_keep | exact ⟨x1178c0, x1178c1, x1178c2, x1178c3, x1178c4, x1178c5, x1178c6, brg179c0, brg179c1, brg179c2, brg179c3, brg179c4, brg179c5, brg179c6⟩ | exact ⟨x1193c0, x1193c1, x1193c2, x1193c3, x1193c4, x1193c5, x1193c6, brg194c0, brg194c1, brg194c2, brg194c3, brg194c4, brg194c5, brg194c6⟩) (first | (go_at_call 19; refine (to_callD k c' s' lo' hi' (U1.out.below HB_163.out) TO'.out).mono ?_; rintro e w9 ⟨x7, y7, z7, a7, b7, rfl, hs, hm, hb⟩; have S7_165 := Aside0.mk hs; clear hs; have Z_166 := Aside0.mk hm; clear hm; unfold Made at Z_166; have arg_167 := Aside0.mk (arg_153.out.below hb); have brg_168 := Aside0.mk (brg_154.out.below hb); have w0_169 := Aside0.mk (w0_155.out.below hb); have bw0_170 := Aside0.mk (bw0_156.out.below hb); have S3_171 := Aside0.mk (S3_157.out.below hb); have x0_172 := Aside0.mk (x0_158.out.below hb); have S4_173 := Aside0.mk (S4_159.out.below hb); have x1_174 := Aside0.mk (x1_160.out.below hb); have g0_175 := Aside0.mk (g0_161.out.below hb); have bg0_176 := Aside0.mk (bg0_162.out.below hb); have HB_177 := Aside0.mk (below_step HB_163.out hb); have Z_178 := Aside0.mk (hb.size); clear arg_153 brg_154 w0_155 bw0_156 S3_157 x0_158 S4_159 x1_160 g0_161 bg0_162 HB_163 hb; obtain ⟨x1178c0, x1178c1, x1178c2, x1178c3, x1178c4, x1178c5, x1178c6⟩ := x1_174.out.cells; obtain ⟨brg179c0, brg179c1, brg179c2, brg179c3, brg179c4, brg179c5, brg179c6⟩ := brg_168.out.cells) | (go_at_call 12; refine (eq_callD k c' s' lo' hi' S4_173.out.rd S7_165.out.rd EQ'.out).mono ?_; rintro e w10 ⟨rfl, hb⟩; have arg_181 := Aside0.mk (arg_167.out.below hb); have brg_182 := Aside0.mk (brg_168.out.below hb); have w0_183 := Aside0.mk (w0_169.out.below hb); have bw0_184 := Aside0.mk (bw0_170.out.below hb); have S3_185 := Aside0.mk (S3_171.out.below hb); have x0_186 := Aside0.mk (x0_172.out.below hb); have S4_187 := Aside0.mk (S4_173.out.below hb); have x1_188 := Aside0.mk (x1_174.out.below hb); have g0_189 := Aside0.mk (g0_175.out.below hb); have bg0_190 := Aside0.mk (bg0_176.out.below hb); have S7_191 := Aside0.mk (S7_165.out.below hb); have HB_192 := Aside0.mk (below_step HB_177.out hb); have Z_193 := Aside0.mk (hb.size); clear arg_167 brg_168 w0_169 bw0_170 S3_171 x0_172 S4_173 x1_174 g0_175 bg0_176 S7_165 HB_177 hb; obtain ⟨x1193c0, x1193c1, x1193c2, x1193c3, x1193c4, x1193c5, x1193c6⟩ := x1_188.out.cells; obtain ⟨brg194c0, brg194c1, brg194c2, brg194c3, brg194c4, brg194c5, brg194c6⟩ := brg_182.out.cells))
  try clear x1193c0 x1193c1 x1193c2 x1193c3 x1193c4 x1193c5 x1193c6 brg194c0 brg194c1 brg194c2 brg194c3 brg194c4 brg194c5 brg194c6
  clear S7_191
  obtain ⟨x0195c0, x0195c1, x0195c2, x0195c3, x0195c4, x0195c5, x0195c6⟩ := x0_186.out.cells
  go_wp2_with fail
  clear x0195c0 x0195c1 x0195c2 x0195c3 x0195c4 x0195c5 x0195c6
  refine (mark_callM k MK c s lo hi 1 M S3_185.out (by have := Z_2.out; have := Z_6.out; have := Z_11.out; have := Z_16.out; have := Z_20.out; have := Z_21.out; have := Z_22.out; have := Z_23.out; have := Z_24.out; have := Z_28.out; have := Z_31.out; have := Z_37.out; have := Z_44.out; have := Z_48.out; have := Z_56.out; have := Z_65.out; have := Z_69.out; have := Z_79.out; have := Z_90.out; have := Z_105.out; have := Z_119.out; have := Z_121.out; have := Z_133.out; have := Z_148.out; have := Z_164.out; have := Z_166.out; have := Z_178.out; have := Z_193.out; omega) (by have := Z_2.out; have := Z_6.out; have := Z_11.out; have := Z_16.out; have := Z_20.out; have := Z_21.out; have := Z_22.out; have := Z_23.out; have := Z_24.out; have := Z_28.out; have := Z_31.out; have := Z_37.out; have := Z_44.out; have := Z_48.out; have := Z_56.out; have := Z_65.out; have := Z_69.out; have := Z_79.out; have := Z_90.out; have := Z_105.out; have := Z_119.out; have := Z_121.out; have := Z_133.out; have := Z_148.out; have := Z_164.out; have := Z_166.out; have := Z_178.out; have := Z_193.out; omega) (by omega) LM).mono ?_
  rintro e w11 ⟨rfl, hs, hk⟩
  have S3_197 := Aside0.mk hs
  clear hs
  clear S3_185
  have arg_198 := Aside0.mk (arg_181.out.kp hk (by have := Z_2.out; have := Z_6.out; have := Z_11.out; have := Z_16.out; have := Z_20.out; have := Z_21.out; have := Z_22.out; have := Z_23.out; have := Z_24.out; have := Z_28.out; have := Z_31.out; have := Z_37.out; have := Z_44.out; have := Z_48.out; have := Z_56.out; have := Z_65.out; have := Z_69.out; have := Z_79.out; have := Z_90.out; have := Z_105.out; have := Z_119.out; have := Z_121.out; have := Z_133.out; have := Z_148.out; have := Z_164.out; have := Z_166.out; have := Z_178.out; have := Z_193.out; omega))
  have brg_199 := Aside0.mk (brg_182.out.kp hk (by have := Z_2.out; have := Z_6.out; have := Z_11.out; have := Z_16.out; have := Z_20.out; have := Z_21.out; have := Z_22.out; have := Z_23.out; have := Z_24.out; have := Z_28.out; have := Z_31.out; have := Z_37.out; have := Z_44.out; have := Z_48.out; have := Z_56.out; have := Z_65.out; have := Z_69.out; have := Z_79.out; have := Z_90.out; have := Z_105.out; have := Z_119.out; have := Z_121.out; have := Z_133.out; have := Z_148.out; have := Z_164.out; have := Z_166.out; have := Z_178.out; have := Z_193.out; omega))
  have w0_200 := Aside0.mk (w0_183.out.kp hk (by have := Z_2.out; have := Z_6.out; have := Z_11.out; have := Z_16.out; have := Z_20.out; have := Z_21.out; have := Z_22.out; have := Z_23.out; have := Z_24.out; have := Z_28.out; have := Z_31.out; have := Z_37.out; have := Z_44.out; have := Z_48.out; have := Z_56.out; have := Z_65.out; have := Z_69.out; have := Z_79.out; have := Z_90.out; have := Z_105.out; have := Z_119.out; have := Z_121.out; have := Z_133.out; have := Z_148.out; have := Z_164.out; have := Z_166.out; have := Z_178.out; have := Z_193.out; omega))
  have bw0_201 := Aside0.mk (bw0_184.out.kp hk (by have := Z_2.out; have := Z_6.out; have := Z_11.out; have := Z_16.out; have := Z_20.out; have := Z_21.out; have := Z_22.out; have := Z_23.out; have := Z_24.out; have := Z_28.out; have := Z_31.out; have := Z_37.out; have := Z_44.out; have := Z_48.out; have := Z_56.out; have := Z_65.out; have := Z_69.out; have := Z_79.out; have := Z_90.out; have := Z_105.out; have := Z_119.out; have := Z_121.out; have := Z_133.out; have := Z_148.out; have := Z_164.out; have := Z_166.out; have := Z_178.out; have := Z_193.out; omega))
  have x0_202 := Aside0.mk (x0_186.out.kp hk (by have := Z_2.out; have := Z_6.out; have := Z_11.out; have := Z_16.out; have := Z_20.out; have := Z_21.out; have := Z_22.out; have := Z_23.out; have := Z_24.out; have := Z_28.out; have := Z_31.out; have := Z_37.out; have := Z_44.out; have := Z_48.out; have := Z_56.out; have := Z_65.out; have := Z_69.out; have := Z_79.out; have := Z_90.out; have := Z_105.out; have := Z_119.out; have := Z_121.out; have := Z_133.out; have := Z_148.out; have := Z_164.out; have := Z_166.out; have := Z_178.out; have := Z_193.out; omega))
  have S4_203 := Aside0.mk (S4_187.out.kp hk (by have := Z_2.out; have := Z_6.out; have := Z_11.out; have := Z_16.out; have := Z_20.out; have := Z_21.out; have := Z_22.out; have := Z_23.out; have := Z_24.out; have := Z_28.out; have := Z_31.out; have := Z_37.out; have := Z_44.out; have := Z_48.out; have := Z_56.out; have := Z_65.out; have := Z_69.out; have := Z_79.out; have := Z_90.out; have := Z_105.out; have := Z_119.out; have := Z_121.out; have := Z_133.out; have := Z_148.out; have := Z_164.out; have := Z_166.out; have := Z_178.out; have := Z_193.out; omega))
  have x1_204 := Aside0.mk (x1_188.out.kp hk (by have := Z_2.out; have := Z_6.out; have := Z_11.out; have := Z_16.out; have := Z_20.out; have := Z_21.out; have := Z_22.out; have := Z_23.out; have := Z_24.out; have := Z_28.out; have := Z_31.out; have := Z_37.out; have := Z_44.out; have := Z_48.out; have := Z_56.out; have := Z_65.out; have := Z_69.out; have := Z_79.out; have := Z_90.out; have := Z_105.out; have := Z_119.out; have := Z_121.out; have := Z_133.out; have := Z_148.out; have := Z_164.out; have := Z_166.out; have := Z_178.out; have := Z_193.out; omega))
  have g0_205 := Aside0.mk (g0_189.out.kp hk (by have := Z_2.out; have := Z_6.out; have := Z_11.out; have := Z_16.out; have := Z_20.out; have := Z_21.out; have := Z_22.out; have := Z_23.out; have := Z_24.out; have := Z_28.out; have := Z_31.out; have := Z_37.out; have := Z_44.out; have := Z_48.out; have := Z_56.out; have := Z_65.out; have := Z_69.out; have := Z_79.out; have := Z_90.out; have := Z_105.out; have := Z_119.out; have := Z_121.out; have := Z_133.out; have := Z_148.out; have := Z_164.out; have := Z_166.out; have := Z_178.out; have := Z_193.out; omega))
  have bg0_206 := Aside0.mk (bg0_190.out.kp hk (by have := Z_2.out; have := Z_6.out; have := Z_11.out; have := Z_16.out; have := Z_20.out; have := Z_21.out; have := Z_22.out; have := Z_23.out; have := Z_24.out; have := Z_28.out; have := Z_31.out; have := Z_37.out; have := Z_44.out; have := Z_48.out; have := Z_56.out; have := Z_65.out; have := Z_69.out; have := Z_79.out; have := Z_90.out; have := Z_105.out; have := Z_119.out; have := Z_121.out; have := Z_133.out; have := Z_148.out; have := Z_164.out; have := Z_166.out; have := Z_178.out; have := Z_193.out; omega))
  have HB_207 := Aside0.mk (below_kp HB_192.out hk (by have := Z_2.out; have := Z_6.out; have := Z_11.out; have := Z_16.out; have := Z_20.out; have := Z_21.out; have := Z_22.out; have := Z_23.out; have := Z_24.out; have := Z_28.out; have := Z_31.out; have := Z_37.out; have := Z_44.out; have := Z_48.out; have := Z_56.out; have := Z_65.out; have := Z_69.out; have := Z_79.out; have := Z_90.out; have := Z_105.out; have := Z_119.out; have := Z_121.out; have := Z_133.out; have := Z_148.out; have := Z_164.out; have := Z_166.out; have := Z_178.out; have := Z_193.out; omega) HB_192.out.size)
  have Z_208 := Aside0.mk (hk.kept.1)
  clear arg_181 brg_182 w0_183 bw0_184 x0_186 S4_187 x1_188 g0_189 bg0_190 HB_192 hk
  obtain ⟨x1208c0, x1208c1, x1208c2, x1208c3, x1208c4, x1208c5, x1208c6⟩ := x1_204.out.cells
  go_wp2_with fail
  clear x1208c0 x1208c1 x1208c2 x1208c3 x1208c4 x1208c5 x1208c6
  refine (mark_callM k MK c' s' lo' hi' M M' S4_203.out (by have := Z_2.out; have := Z_6.out; have := Z_11.out; have := Z_16.out; have := Z_20.out; have := Z_21.out; have := Z_22.out; have := Z_23.out; have := Z_24.out; have := Z_28.out; have := Z_31.out; have := Z_37.out; have := Z_44.out; have := Z_48.out; have := Z_56.out; have := Z_65.out; have := Z_69.out; have := Z_79.out; have := Z_90.out; have := Z_105.out; have := Z_119.out; have := Z_121.out; have := Z_133.out; have := Z_148.out; have := Z_164.out; have := Z_166.out; have := Z_178.out; have := Z_193.out; have := Z_208.out; omega) (by have := Z_2.out; have := Z_6.out; have := Z_11.out; have := Z_16.out; have := Z_20.out; have := Z_21.out; have := Z_22.out; have := Z_23.out; have := Z_24.out; have := Z_28.out; have := Z_31.out; have := Z_37.out; have := Z_44.out; have := Z_48.out; have := Z_56.out; have := Z_65.out; have := Z_69.out; have := Z_79.out; have := Z_90.out; have := Z_105.out; have := Z_119.out; have := Z_121.out; have := Z_133.out; have := Z_148.out; have := Z_164.out; have := Z_166.out; have := Z_178.out; have := Z_193.out; have := Z_208.out; omega) (hM) LM').mono ?_
  rintro e w12 ⟨rfl, hs, hk⟩
  have S4_210 := Aside0.mk hs
  clear hs
  clear S4_203
  have arg_211 := Aside0.mk (arg_198.out.kp hk (by have := Z_2.out; have := Z_6.out; have := Z_11.out; have := Z_16.out; have := Z_20.out; have := Z_21.out; have := Z_22.out; have := Z_23.out; have := Z_24.out; have := Z_28.out; have := Z_31.out; have := Z_37.out; have := Z_44.out; have := Z_48.out; have := Z_56.out; have := Z_65.out; have := Z_69.out; have := Z_79.out; have := Z_90.out; have := Z_105.out; have := Z_119.out; have := Z_121.out; have := Z_133.out; have := Z_148.out; have := Z_164.out; have := Z_166.out; have := Z_178.out; have := Z_193.out; have := Z_208.out; omega))
  have brg_212 := Aside0.mk (brg_199.out.kp hk (by have := Z_2.out; have := Z_6.out; have := Z_11.out; have := Z_16.out; have := Z_20.out; have := Z_21.out; have := Z_22.out; have := Z_23.out; have := Z_24.out; have := Z_28.out; have := Z_31.out; have := Z_37.out; have := Z_44.out; have := Z_48.out; have := Z_56.out; have := Z_65.out; have := Z_69.out; have := Z_79.out; have := Z_90.out; have := Z_105.out; have := Z_119.out; have := Z_121.out; have := Z_133.out; have := Z_148.out; have := Z_164.out; have := Z_166.out; have := Z_178.out; have := Z_193.out; have := Z_208.out; omega))
  have w0_213 := Aside0.mk (w0_200.out.kp hk (by have := Z_2.out; have := Z_6.out; have := Z_11.out; have := Z_16.out; have := Z_20.out; have := Z_21.out; have := Z_22.out; have := Z_23.out; have := Z_24.out; have := Z_28.out; have := Z_31.out; have := Z_37.out; have := Z_44.out; have := Z_48.out; have := Z_56.out; have := Z_65.out; have := Z_69.out; have := Z_79.out; have := Z_90.out; have := Z_105.out; have := Z_119.out; have := Z_121.out; have := Z_133.out; have := Z_148.out; have := Z_164.out; have := Z_166.out; have := Z_178.out; have := Z_193.out; have := Z_208.out; omega))
  have bw0_214 := Aside0.mk (bw0_201.out.kp hk (by have := Z_2.out; have := Z_6.out; have := Z_11.out; have := Z_16.out; have := Z_20.out; have := Z_21.out; have := Z_22.out; have := Z_23.out; have := Z_24.out; have := Z_28.out; have := Z_31.out; have := Z_37.out; have := Z_44.out; have := Z_48.out; have := Z_56.out; have := Z_65.out; have := Z_69.out; have := Z_79.out; have := Z_90.out; have := Z_105.out; have := Z_119.out; have := Z_121.out; have := Z_133.out; have := Z_148.out; have := Z_164.out; have := Z_166.out; have := Z_178.out; have := Z_193.out; have := Z_208.out; omega))
  have x0_215 := Aside0.mk (x0_202.out.kp hk (by have := Z_2.out; have := Z_6.out; have := Z_11.out; have := Z_16.out; have := Z_20.out; have := Z_21.out; have := Z_22.out; have := Z_23.out; have := Z_24.out; have := Z_28.out; have := Z_31.out; have := Z_37.out; have := Z_44.out; have := Z_48.out; have := Z_56.out; have := Z_65.out; have := Z_69.out; have := Z_79.out; have := Z_90.out; have := Z_105.out; have := Z_119.out; have := Z_121.out; have := Z_133.out; have := Z_148.out; have := Z_164.out; have := Z_166.out; have := Z_178.out; have := Z_193.out; have := Z_208.out; omega))
  have x1_216 := Aside0.mk (x1_204.out.kp hk (by have := Z_2.out; have := Z_6.out; have := Z_11.out; have := Z_16.out; have := Z_20.out; have := Z_21.out; have := Z_22.out; have := Z_23.out; have := Z_24.out; have := Z_28.out; have := Z_31.out; have := Z_37.out; have := Z_44.out; have := Z_48.out; have := Z_56.out; have := Z_65.out; have := Z_69.out; have := Z_79.out; have := Z_90.out; have := Z_105.out; have := Z_119.out; have := Z_121.out; have := Z_133.out; have := Z_148.out; have := Z_164.out; have := Z_166.out; have := Z_178.out; have := Z_193.out; have := Z_208.out; omega))
  have g0_217 := Aside0.mk (g0_205.out.kp hk (by have := Z_2.out; have := Z_6.out; have := Z_11.out; have := Z_16.out; have := Z_20.out; have := Z_21.out; have := Z_22.out; have := Z_23.out; have := Z_24.out; have := Z_28.out; have := Z_31.out; have := Z_37.out; have := Z_44.out; have := Z_48.out; have := Z_56.out; have := Z_65.out; have := Z_69.out; have := Z_79.out; have := Z_90.out; have := Z_105.out; have := Z_119.out; have := Z_121.out; have := Z_133.out; have := Z_148.out; have := Z_164.out; have := Z_166.out; have := Z_178.out; have := Z_193.out; have := Z_208.out; omega))
  have bg0_218 := Aside0.mk (bg0_206.out.kp hk (by have := Z_2.out; have := Z_6.out; have := Z_11.out; have := Z_16.out; have := Z_20.out; have := Z_21.out; have := Z_22.out; have := Z_23.out; have := Z_24.out; have := Z_28.out; have := Z_31.out; have := Z_37.out; have := Z_44.out; have := Z_48.out; have := Z_56.out; have := Z_65.out; have := Z_69.out; have := Z_79.out; have := Z_90.out; have := Z_105.out; have := Z_119.out; have := Z_121.out; have := Z_133.out; have := Z_148.out; have := Z_164.out; have := Z_166.out; have := Z_178.out; have := Z_193.out; have := Z_208.out; omega))
  have S3_219 := Aside0.mk (S3_197.out.kp hk (by have := Z_2.out; have := Z_6.out; have := Z_11.out; have := Z_16.out; have := Z_20.out; have := Z_21.out; have := Z_22.out; have := Z_23.out; have := Z_24.out; have := Z_28.out; have := Z_31.out; have := Z_37.out; have := Z_44.out; have := Z_48.out; have := Z_56.out; have := Z_65.out; have := Z_69.out; have := Z_79.out; have := Z_90.out; have := Z_105.out; have := Z_119.out; have := Z_121.out; have := Z_133.out; have := Z_148.out; have := Z_164.out; have := Z_166.out; have := Z_178.out; have := Z_193.out; have := Z_208.out; omega))
  have HB_220 := Aside0.mk (below_kp HB_207.out hk (by have := Z_2.out; have := Z_6.out; have := Z_11.out; have := Z_16.out; have := Z_20.out; have := Z_21.out; have := Z_22.out; have := Z_23.out; have := Z_24.out; have := Z_28.out; have := Z_31.out; have := Z_37.out; have := Z_44.out; have := Z_48.out; have := Z_56.out; have := Z_65.out; have := Z_69.out; have := Z_79.out; have := Z_90.out; have := Z_105.out; have := Z_119.out; have := Z_121.out; have := Z_133.out; have := Z_148.out; have := Z_164.out; have := Z_166.out; have := Z_178.out; have := Z_193.out; have := Z_208.out; omega) HB_207.out.size)
  have Z_221 := Aside0.mk (hk.kept.1)
  clear arg_198 brg_199 w0_200 bw0_201 x0_202 x1_204 g0_205 bg0_206 S3_197 HB_207 hk
  obtain ⟨bg0221c0, bg0221c1, bg0221c2, bg0221c3, bg0221c4, bg0221c5, bg0221c6⟩ := bg0_218.out.cells
  obtain ⟨bw0222c0, bw0222c1, bw0222c2, bw0222c3, bw0222c4, bw0222c5, bw0222c6⟩ := bw0_214.out.cells
  go_wp2_with fail
  clear bg0221c0 bg0221c1 bg0221c2 bg0221c3 bg0221c4 bg0221c5 bg0221c6 bw0222c0 bw0222c1 bw0222c2 bw0222c3 bw0222c4 bw0222c5 bw0222c6
  refine (eq_callD k c1 s1 lo1 hi1 g0_217.out.rd w0_213.out.rd EQ1.out).mono ?_
  rintro e w13 ⟨rfl, hb⟩
  have arg_224 := Aside0.mk (arg_211.out.below hb)
  have brg_225 := Aside0.mk (brg_212.out.below hb)
  have w0_226 := Aside0.mk (w0_213.out.below hb)
  have bw0_227 := Aside0.mk (bw0_214.out.below hb)
  have x0_228 := Aside0.mk (x0_215.out.below hb)
  have x1_229 := Aside0.mk (x1_216.out.below hb)
  have g0_230 := Aside0.mk (g0_217.out.below hb)
  have bg0_231 := Aside0.mk (bg0_218.out.below hb)
  have S3_232 := Aside0.mk (S3_219.out.below hb)
  have S4_233 := Aside0.mk (S4_210.out.below hb)
  have HB_234 := Aside0.mk (below_step HB_220.out hb)
  have Z_235 := Aside0.mk (hb.size)
  clear arg_211 brg_212 w0_213 bw0_214 x0_215 x1_216 g0_217 bg0_218 S3_219 S4_210 HB_220 hb
  obtain ⟨bg0235c0, bg0235c1, bg0235c2, bg0235c3, bg0235c4, bg0235c5, bg0235c6⟩ := bg0_231.out.cells
  go_wp2_with fail
  clear bg0235c0 bg0235c1 bg0235c2 bg0235c3 bg0235c4 bg0235c5 bg0235c6
  refine (mark_callM k MK c1 s1 lo1 hi1 1 M1 g0_230.out (by have := Z_2.out; have := Z_6.out; have := Z_11.out; have := Z_16.out; have := Z_20.out; have := Z_21.out; have := Z_22.out; have := Z_23.out; have := Z_24.out; have := Z_28.out; have := Z_31.out; have := Z_37.out; have := Z_44.out; have := Z_48.out; have := Z_56.out; have := Z_65.out; have := Z_69.out; have := Z_79.out; have := Z_90.out; have := Z_105.out; have := Z_119.out; have := Z_121.out; have := Z_133.out; have := Z_148.out; have := Z_164.out; have := Z_166.out; have := Z_178.out; have := Z_193.out; have := Z_208.out; have := Z_221.out; have := Z_235.out; omega) (by have := Z_2.out; have := Z_6.out; have := Z_11.out; have := Z_16.out; have := Z_20.out; have := Z_21.out; have := Z_22.out; have := Z_23.out; have := Z_24.out; have := Z_28.out; have := Z_31.out; have := Z_37.out; have := Z_44.out; have := Z_48.out; have := Z_56.out; have := Z_65.out; have := Z_69.out; have := Z_79.out; have := Z_90.out; have := Z_105.out; have := Z_119.out; have := Z_121.out; have := Z_133.out; have := Z_148.out; have := Z_164.out; have := Z_166.out; have := Z_178.out; have := Z_193.out; have := Z_208.out; have := Z_221.out; have := Z_235.out; omega) (by omega) LM1).mono ?_
  rintro e w14 ⟨rfl, hs, hk⟩
  have g0_237 := Aside0.mk hs
  clear hs
  clear g0_230
  have arg_238 := Aside0.mk (arg_224.out.kp hk (by have := Z_2.out; have := Z_6.out; have := Z_11.out; have := Z_16.out; have := Z_20.out; have := Z_21.out; have := Z_22.out; have := Z_23.out; have := Z_24.out; have := Z_28.out; have := Z_31.out; have := Z_37.out; have := Z_44.out; have := Z_48.out; have := Z_56.out; have := Z_65.out; have := Z_69.out; have := Z_79.out; have := Z_90.out; have := Z_105.out; have := Z_119.out; have := Z_121.out; have := Z_133.out; have := Z_148.out; have := Z_164.out; have := Z_166.out; have := Z_178.out; have := Z_193.out; have := Z_208.out; have := Z_221.out; have := Z_235.out; omega))
  have brg_239 := Aside0.mk (brg_225.out.kp hk (by have := Z_2.out; have := Z_6.out; have := Z_11.out; have := Z_16.out; have := Z_20.out; have := Z_21.out; have := Z_22.out; have := Z_23.out; have := Z_24.out; have := Z_28.out; have := Z_31.out; have := Z_37.out; have := Z_44.out; have := Z_48.out; have := Z_56.out; have := Z_65.out; have := Z_69.out; have := Z_79.out; have := Z_90.out; have := Z_105.out; have := Z_119.out; have := Z_121.out; have := Z_133.out; have := Z_148.out; have := Z_164.out; have := Z_166.out; have := Z_178.out; have := Z_193.out; have := Z_208.out; have := Z_221.out; have := Z_235.out; omega))
  have w0_240 := Aside0.mk (w0_226.out.kp hk (by have := Z_2.out; have := Z_6.out; have := Z_11.out; have := Z_16.out; have := Z_20.out; have := Z_21.out; have := Z_22.out; have := Z_23.out; have := Z_24.out; have := Z_28.out; have := Z_31.out; have := Z_37.out; have := Z_44.out; have := Z_48.out; have := Z_56.out; have := Z_65.out; have := Z_69.out; have := Z_79.out; have := Z_90.out; have := Z_105.out; have := Z_119.out; have := Z_121.out; have := Z_133.out; have := Z_148.out; have := Z_164.out; have := Z_166.out; have := Z_178.out; have := Z_193.out; have := Z_208.out; have := Z_221.out; have := Z_235.out; omega))
  have bw0_241 := Aside0.mk (bw0_227.out.kp hk (by have := Z_2.out; have := Z_6.out; have := Z_11.out; have := Z_16.out; have := Z_20.out; have := Z_21.out; have := Z_22.out; have := Z_23.out; have := Z_24.out; have := Z_28.out; have := Z_31.out; have := Z_37.out; have := Z_44.out; have := Z_48.out; have := Z_56.out; have := Z_65.out; have := Z_69.out; have := Z_79.out; have := Z_90.out; have := Z_105.out; have := Z_119.out; have := Z_121.out; have := Z_133.out; have := Z_148.out; have := Z_164.out; have := Z_166.out; have := Z_178.out; have := Z_193.out; have := Z_208.out; have := Z_221.out; have := Z_235.out; omega))
  have x0_242 := Aside0.mk (x0_228.out.kp hk (by have := Z_2.out; have := Z_6.out; have := Z_11.out; have := Z_16.out; have := Z_20.out; have := Z_21.out; have := Z_22.out; have := Z_23.out; have := Z_24.out; have := Z_28.out; have := Z_31.out; have := Z_37.out; have := Z_44.out; have := Z_48.out; have := Z_56.out; have := Z_65.out; have := Z_69.out; have := Z_79.out; have := Z_90.out; have := Z_105.out; have := Z_119.out; have := Z_121.out; have := Z_133.out; have := Z_148.out; have := Z_164.out; have := Z_166.out; have := Z_178.out; have := Z_193.out; have := Z_208.out; have := Z_221.out; have := Z_235.out; omega))
  have x1_243 := Aside0.mk (x1_229.out.kp hk (by have := Z_2.out; have := Z_6.out; have := Z_11.out; have := Z_16.out; have := Z_20.out; have := Z_21.out; have := Z_22.out; have := Z_23.out; have := Z_24.out; have := Z_28.out; have := Z_31.out; have := Z_37.out; have := Z_44.out; have := Z_48.out; have := Z_56.out; have := Z_65.out; have := Z_69.out; have := Z_79.out; have := Z_90.out; have := Z_105.out; have := Z_119.out; have := Z_121.out; have := Z_133.out; have := Z_148.out; have := Z_164.out; have := Z_166.out; have := Z_178.out; have := Z_193.out; have := Z_208.out; have := Z_221.out; have := Z_235.out; omega))
  have bg0_244 := Aside0.mk (bg0_231.out.kp hk (by have := Z_2.out; have := Z_6.out; have := Z_11.out; have := Z_16.out; have := Z_20.out; have := Z_21.out; have := Z_22.out; have := Z_23.out; have := Z_24.out; have := Z_28.out; have := Z_31.out; have := Z_37.out; have := Z_44.out; have := Z_48.out; have := Z_56.out; have := Z_65.out; have := Z_69.out; have := Z_79.out; have := Z_90.out; have := Z_105.out; have := Z_119.out; have := Z_121.out; have := Z_133.out; have := Z_148.out; have := Z_164.out; have := Z_166.out; have := Z_178.out; have := Z_193.out; have := Z_208.out; have := Z_221.out; have := Z_235.out; omega))
  have S3_245 := Aside0.mk (S3_232.out.kp hk (by have := Z_2.out; have := Z_6.out; have := Z_11.out; have := Z_16.out; have := Z_20.out; have := Z_21.out; have := Z_22.out; have := Z_23.out; have := Z_24.out; have := Z_28.out; have := Z_31.out; have := Z_37.out; have := Z_44.out; have := Z_48.out; have := Z_56.out; have := Z_65.out; have := Z_69.out; have := Z_79.out; have := Z_90.out; have := Z_105.out; have := Z_119.out; have := Z_121.out; have := Z_133.out; have := Z_148.out; have := Z_164.out; have := Z_166.out; have := Z_178.out; have := Z_193.out; have := Z_208.out; have := Z_221.out; have := Z_235.out; omega))
  have S4_246 := Aside0.mk (S4_233.out.kp hk (by have := Z_2.out; have := Z_6.out; have := Z_11.out; have := Z_16.out; have := Z_20.out; have := Z_21.out; have := Z_22.out; have := Z_23.out; have := Z_24.out; have := Z_28.out; have := Z_31.out; have := Z_37.out; have := Z_44.out; have := Z_48.out; have := Z_56.out; have := Z_65.out; have := Z_69.out; have := Z_79.out; have := Z_90.out; have := Z_105.out; have := Z_119.out; have := Z_121.out; have := Z_133.out; have := Z_148.out; have := Z_164.out; have := Z_166.out; have := Z_178.out; have := Z_193.out; have := Z_208.out; have := Z_221.out; have := Z_235.out; omega))
  have HB_247 := Aside0.mk (below_kp HB_234.out hk (by have := Z_2.out; have := Z_6.out; have := Z_11.out; have := Z_16.out; have := Z_20.out; have := Z_21.out; have := Z_22.out; have := Z_23.out; have := Z_24.out; have := Z_28.out; have := Z_31.out; have := Z_37.out; have := Z_44.out; have := Z_48.out; have := Z_56.out; have := Z_65.out; have := Z_69.out; have := Z_79.out; have := Z_90.out; have := Z_105.out; have := Z_119.out; have := Z_121.out; have := Z_133.out; have := Z_148.out; have := Z_164.out; have := Z_166.out; have := Z_178.out; have := Z_193.out; have := Z_208.out; have := Z_221.out; have := Z_235.out; omega) HB_234.out.size)
  have Z_248 := Aside0.mk (hk.kept.1)
  clear arg_224 brg_225 w0_226 bw0_227 x0_228 x1_229 bg0_231 S3_232 S4_233 HB_234 hk
  obtain ⟨bg0248c0, bg0248c1, bg0248c2, bg0248c3, bg0248c4, bg0248c5, bg0248c6⟩ := bg0_244.out.cells
  go_wp2_with fail
  clear bg0248c0 bg0248c1 bg0248c2 bg0248c3 bg0248c4 bg0248c5 bg0248c6
  refine (held_callD k c1 s1 lo1 hi1 1 M1 g0_237.out.rd HE.out).mono ?_
  rintro e w15 ⟨rfl, hb⟩
  have arg_250 := Aside0.mk (arg_238.out.below hb)
  have brg_251 := Aside0.mk (brg_239.out.below hb)
  have w0_252 := Aside0.mk (w0_240.out.below hb)
  have bw0_253 := Aside0.mk (bw0_241.out.below hb)
  have x0_254 := Aside0.mk (x0_242.out.below hb)
  have x1_255 := Aside0.mk (x1_243.out.below hb)
  have bg0_256 := Aside0.mk (bg0_244.out.below hb)
  have S3_257 := Aside0.mk (S3_245.out.below hb)
  have S4_258 := Aside0.mk (S4_246.out.below hb)
  have g0_259 := Aside0.mk (g0_237.out.below hb)
  have HB_260 := Aside0.mk (below_step HB_247.out hb)
  have Z_261 := Aside0.mk (hb.size)
  clear arg_238 brg_239 w0_240 bw0_241 x0_242 x1_243 bg0_244 S3_245 S4_246 g0_237 HB_247 hb
  go_upto_region 31 with (fail)
  go_cut [15, 16] (fun v0 v1 wc => ∃ (gbh0 : Nat) (x8 : Sl) (y8 : Sl) (z8 : Sl) (a8 b8 : Nat), v0 = .pointer (some ⟨gbh0, 0, none⟩) ∧ v1 = .bool t ∧ Aside0 (Sk wc a8 b8 x8 y8 z8 h1 r1 R1 ∧ Bx wc gbh0 26 #[.int .i64 c1, .int .i64 s1, .int .i64 lo1, .int .i64 hi1, .slice x8.A x8.n x8.c, .slice y8.A y8.n y8.c, .slice z8.A z8.n z8.c] ∧ Below w15.heap.size w15 wc ∧ w15.heap.size ≤ gbh0 ∧ gbh0 < wc.heap.size ∧ w15.heap.size ≤ a8 ∧ a8 ≤ b8 ∧ b8 ≤ wc.heap.size))
  case first =>
    have LS := Aside0.mk (show ∀ w', Below w15.heap.size w15 w' → w'.cell? ⟨w.heap.size, 0, none⟩ = some (.int .i64 c) ∧ w'.cell? ⟨w.heap.size, 1, none⟩ = some (.int .i64 s) ∧ w'.cell? ⟨w.heap.size, 2, none⟩ = some (.int .i64 lo) ∧ w'.cell? ⟨w.heap.size, 3, none⟩ = some (.int .i64 hi) ∧ w'.cell? ⟨w.heap.size, 4, none⟩ = some (.slice x.A x.n x.c) ∧ w'.cell? ⟨w.heap.size, 5, none⟩ = some (.slice y.A y.n y.c) ∧ w'.cell? ⟨w.heap.size, 6, none⟩ = some (.slice z.A z.n z.c) ∧ w'.cell? ⟨w.heap.size + 1, 0, none⟩ = some (.int .i64 c') ∧ w'.cell? ⟨w.heap.size + 1, 1, none⟩ = some (.int .i64 s') ∧ w'.cell? ⟨w.heap.size + 1, 2, none⟩ = some (.int .i64 lo') ∧ w'.cell? ⟨w.heap.size + 1, 3, none⟩ = some (.int .i64 hi') ∧ w'.cell? ⟨w.heap.size + 1, 4, none⟩ = some (.slice x'.A x'.n x'.c) ∧ w'.cell? ⟨w.heap.size + 1, 5, none⟩ = some (.slice y'.A y'.n y'.c) ∧ w'.cell? ⟨w.heap.size + 1, 6, none⟩ = some (.slice z'.A z'.n z'.c) from fun w' F => by
      obtain ⟨argq0, argq1, argq2, argq3, argq4, argq5, argq6⟩ := (arg_250.out.below F).cells
      obtain ⟨brgq0, brgq1, brgq2, brgq3, brgq4, brgq5, brgq6⟩ := (brg_251.out.below F).cells
      exact ⟨argq0, argq1, argq2, argq3, argq4, argq5, argq6, brgq0, brgq1, brgq2, brgq3, brgq4, brgq5, brgq6⟩)
    have UA_ := Aside0.mk (U0.out.below HB_260.out)
    have UB_ := Aside0.mk (U1.out.below HB_260.out)
    have HQ0 := Aside0.mk (show Below w15.heap.size w15 w15.drew from below_drew (Below.refl _ _))
    go_region_held3 (fun w' => w'.cell? ⟨w.heap.size, 0, none⟩ = some (.int .i64 c) ∧ w'.cell? ⟨w.heap.size, 1, none⟩ = some (.int .i64 s) ∧ w'.cell? ⟨w.heap.size, 2, none⟩ = some (.int .i64 lo) ∧ w'.cell? ⟨w.heap.size, 3, none⟩ = some (.int .i64 hi) ∧ w'.cell? ⟨w.heap.size, 4, none⟩ = some (.slice x.A x.n x.c) ∧ w'.cell? ⟨w.heap.size, 5, none⟩ = some (.slice y.A y.n y.c) ∧ w'.cell? ⟨w.heap.size, 6, none⟩ = some (.slice z.A z.n z.c) ∧ w'.cell? ⟨w.heap.size + 1, 0, none⟩ = some (.int .i64 c') ∧ w'.cell? ⟨w.heap.size + 1, 1, none⟩ = some (.int .i64 s') ∧ w'.cell? ⟨w.heap.size + 1, 2, none⟩ = some (.int .i64 lo') ∧ w'.cell? ⟨w.heap.size + 1, 3, none⟩ = some (.int .i64 hi') ∧ w'.cell? ⟨w.heap.size + 1, 4, none⟩ = some (.slice x'.A x'.n x'.c) ∧ w'.cell? ⟨w.heap.size + 1, 5, none⟩ = some (.slice y'.A y'.n y'.c) ∧ w'.cell? ⟨w.heap.size + 1, 6, none⟩ = some (.slice z'.A z'.n z'.c)) (first | with_reducible exact FL.out _ _ _ _ _ _ _ | with_reducible exact LS.out _ HQ0.out | with_reducible exact LS.out _ (below_drew (below_alloc (Below.refl _ _) _)) | with_reducible exact LS.out _ (below_step HQ0.out (below_alloc (Below.refl _ _) _)) | with_reducible exact LS.out _ HQ1.out | with_reducible exact LS.out _ (below_step HQ1.out (below_alloc (Below.refl _ _) _)) | with_reducible exact LS.out _ HQ2.out | with_reducible exact LS.out _ (below_step HQ2.out (below_alloc (Below.refl _ _) _)) | with_reducible exact LS.out _ HQ3.out | with_reducible exact LS.out _ (below_step HQ3.out (below_alloc (Below.refl _ _) _)) | with_reducible exact LS.out _ (below_kp (below_step HQ3.out (below_alloc (Below.refl _ _) _)) ((Bx.new wq3 26 #[.int .i64 0, .int .i64 0, .int .i64 0, .int .i64 0, .slice none 0 0, .slice none 0 0, .slice none 0 0]).fill _ _ _ _ _ _ _).2 HQ3.out.size (Nat.le_trans HQ3.out.size (sz_up _ _)))) (first | (go_at_call 19; (with_reducible refine (to_callD k c s lo hi (by first | exact UA_.out.below HQ0.out | exact UA_.out.below (below_drew (below_alloc (Below.refl _ _) _))) TO.out).mono ?_); rintro e wq1 ⟨x31, y31, z31, a31, b31, rfl, hs, hm, hb⟩; (first | ((with_reducible have hz_ := reg_new HQ0.out hb hm); obtain ⟨hq, hy, hn, hp⟩ := hz_; have Y1 := Aside0.mk hy; have HQ1 := Aside0.mk hq; have M1 := Aside0.mk hn; have HP1 := Aside0.mk hp; clear hq hy hn hp) | ((with_reducible have hz_ := reg_new0 hb hm); obtain ⟨hq, hy, hn, hp⟩ := hz_; have Y1 := Aside0.mk hy; have HQ1 := Aside0.mk hq; have M1 := Aside0.mk hn; have HP1 := Aside0.mk hp; clear hq hy hn hp) | ((with_reducible have HQ1 := Aside0.mk (below_step HQ0.out hb)); have M1 := Aside0.mk hm; have HP1 := Aside0.mk hb)); have S31 := Aside0.mk hs; clear hs hm hb) | (go_at_call 19; (with_reducible refine (to_callD k c' s' lo' hi' (by first | exact UB_.out.below HQ1.out | exact UB_.out.below (below_step HQ1.out (below_alloc (Below.refl _ _) _))) TO'.out).mono ?_); rintro e wq2 ⟨x32, y32, z32, a32, b32, rfl, hs, hm, hb⟩; (first | ((with_reducible have hz_ := reg_new HQ1.out hb hm); obtain ⟨hq, hy, hn, hp⟩ := hz_; have Y2 := Aside0.mk hy; have HQ2 := Aside0.mk hq; have M2 := Aside0.mk hn; have HP2 := Aside0.mk hp; clear hq hy hn hp) | ((with_reducible have hz_ := reg_old HQ1.out Y1.out hb hm); obtain ⟨hq, hy⟩ := hz_; have Y2 := Aside0.mk hy; have HQ2 := Aside0.mk hq; have M2 := Aside0.mk hm; have HP2 := Aside0.mk hb; clear hq hy) | ((with_reducible have HQ2 := Aside0.mk (below_step HQ1.out hb)); have M2 := Aside0.mk hm; have HP2 := Aside0.mk hb)); have S32 := Aside0.mk hs; clear hs hm hb; replace S31 := Aside0.mk (S31.out.below HP2.out)) | (go_at_call 20; (with_reducible refine (implM_callD k c s lo hi c' s' lo' hi' c1 s1 lo1 hi1 h1 r1 R1 t (by first | exact S31.out.rd | exact (S31.out.below (below_alloc (Below.refl _ _) _)).rd) (by first | exact S32.out.rd | exact (S32.out.below (below_alloc (Below.refl _ _) _)).rd) II.out).mono ?_); rintro e wq3 ⟨x8, y8, z8, a8, b8, rfl, hs, hm, hb⟩; (first | ((with_reducible have hz_ := reg_new HQ2.out hb hm); obtain ⟨hq, hy, hn, hp⟩ := hz_; have Y3 := Aside0.mk hy; have HQ3 := Aside0.mk hq; have M3 := Aside0.mk hn; have HP3 := Aside0.mk hp; clear hq hy hn hp) | ((with_reducible have hz_ := reg_old HQ2.out Y2.out hb hm); obtain ⟨hq, hy⟩ := hz_; have Y3 := Aside0.mk hy; have HQ3 := Aside0.mk hq; have M3 := Aside0.mk hm; have HP3 := Aside0.mk hb; clear hq hy) | ((with_reducible have HQ3 := Aside0.mk (below_step HQ2.out hb)); have M3 := Aside0.mk hm; have HP3 := Aside0.mk hb)); have h0 := Aside0.mk hs; clear hs hm hb; replace S31 := Aside0.mk (S31.out.below HP3.out); replace S32 := Aside0.mk (S32.out.below HP3.out); (first | (obtain ⟨cz0, cz1, cz2, cz3, cz4, cz5, cz6⟩ := Y3.out.bx.cells; have cf := fun i => Bx.fz Y3.out.bx i; have FL := Aside0.mk (fun u0_ u1_ u2_ u3_ u4_ u5_ u6_ => LS.out _ (below_kp HQ3.out (Y3.out.bx.fill u0_ u1_ u2_ u3_ u4_ u5_ u6_).2 Y3.out.lo HQ3.out.size))) | skip)))
    all_goals
      refine Met.intro ?_
      go_step
      go_meet
      case rel =>
        first | (have FE := fun u0_ u1_ u2_ u3_ u4_ u5_ u6_ => reg_end_sk HQ3.out Y3.out ⟨Nat.le_trans (Nat.le_trans HQ2.out.size (Nat.le_refl _)) M3.out.1, M3.out.2⟩ h0.out (Y3.out.bx.fill u0_ u1_ u2_ u3_ u4_ u5_ u6_); refine ⟨_, x8, y8, z8, a8, b8, rfl, rfl, ⟨?_⟩⟩; exact FE (.int .i64 c1) (.int .i64 s1) (.int .i64 lo1) (.int .i64 hi1) (.slice x8.A x8.n x8.c) (.slice y8.A y8.n y8.c) (.slice z8.A z8.n z8.c)) | (have FE := reg_last_sk #[.int .i64 c1, .int .i64 s1, .int .i64 lo1, .int .i64 hi1, .slice x8.A x8.n x8.c, .slice y8.A y8.n y8.c, .slice z8.A z8.n z8.c] 26 HQ3.out ⟨Nat.le_trans (Nat.le_trans HQ2.out.size (Nat.le_refl _)) M3.out.1, M3.out.2⟩ h0.out; refine ⟨_, x8, y8, z8, a8, b8, rfl, rfl, ⟨?_⟩⟩; exact FE)
  case rest =>
  obtain ⟨gbh0, x8, y8, z8, a8, b8, rfl, rfl, ⟨hs, hx, hb, hz1, hz2, hz3, hz4, hz5⟩⟩ := hcut
  generalize wc = wc262 at *
  have h0_263 := Aside0.mk hs
  clear hs
  have bh0_264 := Aside0.mk hx
  clear hx
  have Z_265 := Aside0.mk hz1
  clear hz1
  have Z_266 := Aside0.mk hz2
  clear hz2
  have Z_267 := Aside0.mk hz3
  clear hz3
  have Z_268 := Aside0.mk hz4
  clear hz4
  have Z_269 := Aside0.mk hz5
  clear hz5
  have arg_270 := Aside0.mk (arg_250.out.below hb)
  have brg_271 := Aside0.mk (brg_251.out.below hb)
  have w0_272 := Aside0.mk (w0_252.out.below hb)
  have bw0_273 := Aside0.mk (bw0_253.out.below hb)
  have x0_274 := Aside0.mk (x0_254.out.below hb)
  have x1_275 := Aside0.mk (x1_255.out.below hb)
  have bg0_276 := Aside0.mk (bg0_256.out.below hb)
  have S3_277 := Aside0.mk (S3_257.out.below hb)
  have S4_278 := Aside0.mk (S4_258.out.below hb)
  have g0_279 := Aside0.mk (g0_259.out.below hb)
  have HB_280 := Aside0.mk (below_step HB_260.out hb)
  have Z_281 := Aside0.mk (hb.size)
  clear arg_250 brg_251 w0_252 bw0_253 x0_254 x1_255 bg0_256 S3_257 S4_258 g0_259 HB_260 hb
  obtain ⟨bh0281c0, bh0281c1, bh0281c2, bh0281c3, bh0281c4, bh0281c5, bh0281c6⟩ := bh0_264.out.cells
  obtain ⟨bw0282c0, bw0282c1, bw0282c2, bw0282c3, bw0282c4, bw0282c5, bw0282c6⟩ := bw0_273.out.cells
  go_wp2_with fail
  clear bh0281c0 bh0281c1 bh0281c2 bh0281c3 bh0281c4 bh0281c5 bh0281c6 bw0282c0 bw0282c1 bw0282c2 bw0282c3 bw0282c4 bw0282c5 bw0282c6
  refine (eq_callD k c1 s1 lo1 hi1 h0_263.out.rd w0_272.out.rd EQ1.out).mono ?_
  rintro e w16 ⟨rfl, hb⟩
  have arg_284 := Aside0.mk (arg_270.out.below hb)
  have brg_285 := Aside0.mk (brg_271.out.below hb)
  have w0_286 := Aside0.mk (w0_272.out.below hb)
  have bw0_287 := Aside0.mk (bw0_273.out.below hb)
  have x0_288 := Aside0.mk (x0_274.out.below hb)
  have x1_289 := Aside0.mk (x1_275.out.below hb)
  have bg0_290 := Aside0.mk (bg0_276.out.below hb)
  have S3_291 := Aside0.mk (S3_277.out.below hb)
  have S4_292 := Aside0.mk (S4_278.out.below hb)
  have g0_293 := Aside0.mk (g0_279.out.below hb)
  have h0_294 := Aside0.mk (h0_263.out.below hb)
  have bh0_295 := Aside0.mk (bh0_264.out.below hb)
  have HB_296 := Aside0.mk (below_step HB_280.out hb)
  have Z_297 := Aside0.mk (hb.size)
  clear arg_270 brg_271 w0_272 bw0_273 x0_274 x1_275 bg0_276 S3_277 S4_278 g0_279 h0_263 bh0_264 HB_280 hb
  obtain ⟨bg0297c0, bg0297c1, bg0297c2, bg0297c3, bg0297c4, bg0297c5, bg0297c6⟩ := bg0_290.out.cells
  go_wp2_with fail
  clear bg0297c0 bg0297c1 bg0297c2 bg0297c3 bg0297c4 bg0297c5 bg0297c6
  refine (held_callD k c1 s1 lo1 hi1 1 M1 g0_293.out.rd HE.out).mono ?_
  rintro e w17 ⟨rfl, hb⟩
  have arg_299 := Aside0.mk (arg_284.out.below hb)
  have brg_300 := Aside0.mk (brg_285.out.below hb)
  have w0_301 := Aside0.mk (w0_286.out.below hb)
  have bw0_302 := Aside0.mk (bw0_287.out.below hb)
  have x0_303 := Aside0.mk (x0_288.out.below hb)
  have x1_304 := Aside0.mk (x1_289.out.below hb)
  have bg0_305 := Aside0.mk (bg0_290.out.below hb)
  have S3_306 := Aside0.mk (S3_291.out.below hb)
  have S4_307 := Aside0.mk (S4_292.out.below hb)
  have g0_308 := Aside0.mk (g0_293.out.below hb)
  have h0_309 := Aside0.mk (h0_294.out.below hb)
  have bh0_310 := Aside0.mk (bh0_295.out.below hb)
  have HB_311 := Aside0.mk (below_step HB_296.out hb)
  have Z_312 := Aside0.mk (hb.size)
  clear arg_284 brg_285 w0_286 bw0_287 x0_288 x1_289 bg0_290 S3_291 S4_292 g0_293 h0_294 bh0_295 HB_296 hb
  go_wp2
  go_ret
  exact ⟨rfl, HB_311.out⟩

set_option maxHeartbeats 8000000 in
theorem law1 (k : Nat) (V c s lo hi c' s' lo' hi' : Int) (x y z x' y' z' : Sl) (h r : List Int) (R : List (List Int)) (w : World) (u : Rd w x y z h r R)
    (SZ : Aside0 (laws_szSketch.f k c s lo hi h r R 1048576 = some V)) (hV : decide (V < 0) = true) :
    Calls Try.prog 4 #[.agg #[.int .i64 c, .int .i64 s, .int .i64 lo, .int .i64 hi, .slice x.A x.n x.c, .slice y.A y.n y.c, .slice z.A z.n z.c], .agg #[.int .i64 c', .int .i64 s', .int .i64 lo', .int .i64 hi', .slice x'.A x'.n x'.c, .slice y'.A y'.n y'.c, .slice z'.A z'.n z'.c]] w fun e w' => e = .returned (.bool true) ∧ Below w.heap.size w w' := by
  have U0 := Aside0.mk u
  clear u
  go_enter Try.func4, Try.ntmps4
  have HB_1 := Aside0.mk ((below_alloc (Below.refl _ w) (.cells #[.int .i64 c, .int .i64 s, .int .i64 lo, .int .i64 hi, .slice x.A x.n x.c, .slice y.A y.n y.c, .slice z.A z.n z.c] 35)))
  have Z_2 := Aside0.mk (show (w.alloc (.cells #[.int .i64 c, .int .i64 s, .int .i64 lo, .int .i64 hi, .slice x.A x.n x.c, .slice y.A y.n y.c, .slice z.A z.n z.c] 35)).heap.size = w.heap.size + 1 by simp)
  have arg_3 := Aside0.mk (Bx.new w 35 #[.int .i64 c, .int .i64 s, .int .i64 lo, .int .i64 hi, .slice x.A x.n x.c, .slice y.A y.n y.c, .slice z.A z.n z.c])
  have arg_4 := Aside0.mk (arg_3.out.below (below_alloc (Below.refl _ (w.alloc (.cells #[.int .i64 c, .int .i64 s, .int .i64 lo, .int .i64 hi, .slice x.A x.n x.c, .slice y.A y.n y.c, .slice z.A z.n z.c] 35))) (.cells #[.int .i64 c', .int .i64 s', .int .i64 lo', .int .i64 hi', .slice x'.A x'.n x'.c, .slice y'.A y'.n y'.c, .slice z'.A z'.n z'.c] 35)))
  have HB_5 := Aside0.mk (below_step HB_1.out (below_alloc (Below.refl _ (w.alloc (.cells #[.int .i64 c, .int .i64 s, .int .i64 lo, .int .i64 hi, .slice x.A x.n x.c, .slice y.A y.n y.c, .slice z.A z.n z.c] 35))) (.cells #[.int .i64 c', .int .i64 s', .int .i64 lo', .int .i64 hi', .slice x'.A x'.n x'.c, .slice y'.A y'.n y'.c, .slice z'.A z'.n z'.c] 35)))
  have Z_6 := Aside0.mk (show ((w.alloc (.cells #[.int .i64 c, .int .i64 s, .int .i64 lo, .int .i64 hi, .slice x.A x.n x.c, .slice y.A y.n y.c, .slice z.A z.n z.c] 35)).alloc (.cells #[.int .i64 c', .int .i64 s', .int .i64 lo', .int .i64 hi', .slice x'.A x'.n x'.c, .slice y'.A y'.n y'.c, .slice z'.A z'.n z'.c] 35)).heap.size = w.heap.size + 1 + 1 by simp)
  have brg_7 := Aside0.mk ((show Bx ((w.alloc (.cells #[.int .i64 c, .int .i64 s, .int .i64 lo, .int .i64 hi, .slice x.A x.n x.c, .slice y.A y.n y.c, .slice z.A z.n z.c] 35)).alloc (.cells #[.int .i64 c', .int .i64 s', .int .i64 lo', .int .i64 hi', .slice x'.A x'.n x'.c, .slice y'.A y'.n y'.c, .slice z'.A z'.n z'.c] 35)) (w.heap.size + 1) 35 #[.int .i64 c', .int .i64 s', .int .i64 lo', .int .i64 hi', .slice x'.A x'.n x'.c, .slice y'.A y'.n y'.c, .slice z'.A z'.n z'.c] from (show (w.alloc (.cells #[.int .i64 c, .int .i64 s, .int .i64 lo, .int .i64 hi, .slice x.A x.n x.c, .slice y.A y.n y.c, .slice z.A z.n z.c] 35)).heap.size = w.heap.size + 1 by simp) ▸ Bx.new (w.alloc (.cells #[.int .i64 c, .int .i64 s, .int .i64 lo, .int .i64 hi, .slice x.A x.n x.c, .slice y.A y.n y.c, .slice z.A z.n z.c] 35)) 35 #[.int .i64 c', .int .i64 s', .int .i64 lo', .int .i64 hi', .slice x'.A x'.n x'.c, .slice y'.A y'.n y'.c, .slice z'.A z'.n z'.c]))
  clear arg_3 HB_1
  go_wp2_with fail
  refine (sz_callD k c s lo hi 1048576 V (U0.out.below HB_5.out) SZ.out).mono ?_
  rintro e w1 ⟨rfl, hb⟩
  have arg_8 := Aside0.mk (arg_4.out.below hb)
  have brg_9 := Aside0.mk (brg_7.out.below hb)
  have HB_10 := Aside0.mk (below_step HB_5.out hb)
  have Z_11 := Aside0.mk (hb.size)
  clear arg_4 brg_7 HB_5 hb
  go_wp2
  go_ret
  exact ⟨rfl, HB_10.out⟩

set_option maxHeartbeats 8000000 in
theorem law2 (k : Nat) (V V' c s lo hi c' s' lo' hi' : Int) (x y z x' y' z' : Sl) (h r h' r' : List Int) (R R' : List (List Int)) (w : World) (u : Rd w x y z h r R) (u' : Rd w x' y' z' h' r' R')
    (SZ : Aside0 (laws_szSketch.f k c s lo hi h r R 1048576 = some V)) (hV : decide (V < 0) = false) (SZ' : Aside0 (laws_szSketch.f k c' s' lo' hi' h' r' R' V = some V')) (hV' : decide (V' < 0) = true) :
    Calls Try.prog 4 #[.agg #[.int .i64 c, .int .i64 s, .int .i64 lo, .int .i64 hi, .slice x.A x.n x.c, .slice y.A y.n y.c, .slice z.A z.n z.c], .agg #[.int .i64 c', .int .i64 s', .int .i64 lo', .int .i64 hi', .slice x'.A x'.n x'.c, .slice y'.A y'.n y'.c, .slice z'.A z'.n z'.c]] w fun e w' => e = .returned (.bool true) ∧ Below w.heap.size w w' := by
  have U0 := Aside0.mk u
  have U1 := Aside0.mk u'
  clear u u'
  go_enter Try.func4, Try.ntmps4
  have HB_1 := Aside0.mk ((below_alloc (Below.refl _ w) (.cells #[.int .i64 c, .int .i64 s, .int .i64 lo, .int .i64 hi, .slice x.A x.n x.c, .slice y.A y.n y.c, .slice z.A z.n z.c] 35)))
  have Z_2 := Aside0.mk (show (w.alloc (.cells #[.int .i64 c, .int .i64 s, .int .i64 lo, .int .i64 hi, .slice x.A x.n x.c, .slice y.A y.n y.c, .slice z.A z.n z.c] 35)).heap.size = w.heap.size + 1 by simp)
  have arg_3 := Aside0.mk (Bx.new w 35 #[.int .i64 c, .int .i64 s, .int .i64 lo, .int .i64 hi, .slice x.A x.n x.c, .slice y.A y.n y.c, .slice z.A z.n z.c])
  have arg_4 := Aside0.mk (arg_3.out.below (below_alloc (Below.refl _ (w.alloc (.cells #[.int .i64 c, .int .i64 s, .int .i64 lo, .int .i64 hi, .slice x.A x.n x.c, .slice y.A y.n y.c, .slice z.A z.n z.c] 35))) (.cells #[.int .i64 c', .int .i64 s', .int .i64 lo', .int .i64 hi', .slice x'.A x'.n x'.c, .slice y'.A y'.n y'.c, .slice z'.A z'.n z'.c] 35)))
  have HB_5 := Aside0.mk (below_step HB_1.out (below_alloc (Below.refl _ (w.alloc (.cells #[.int .i64 c, .int .i64 s, .int .i64 lo, .int .i64 hi, .slice x.A x.n x.c, .slice y.A y.n y.c, .slice z.A z.n z.c] 35))) (.cells #[.int .i64 c', .int .i64 s', .int .i64 lo', .int .i64 hi', .slice x'.A x'.n x'.c, .slice y'.A y'.n y'.c, .slice z'.A z'.n z'.c] 35)))
  have Z_6 := Aside0.mk (show ((w.alloc (.cells #[.int .i64 c, .int .i64 s, .int .i64 lo, .int .i64 hi, .slice x.A x.n x.c, .slice y.A y.n y.c, .slice z.A z.n z.c] 35)).alloc (.cells #[.int .i64 c', .int .i64 s', .int .i64 lo', .int .i64 hi', .slice x'.A x'.n x'.c, .slice y'.A y'.n y'.c, .slice z'.A z'.n z'.c] 35)).heap.size = w.heap.size + 1 + 1 by simp)
  have brg_7 := Aside0.mk ((show Bx ((w.alloc (.cells #[.int .i64 c, .int .i64 s, .int .i64 lo, .int .i64 hi, .slice x.A x.n x.c, .slice y.A y.n y.c, .slice z.A z.n z.c] 35)).alloc (.cells #[.int .i64 c', .int .i64 s', .int .i64 lo', .int .i64 hi', .slice x'.A x'.n x'.c, .slice y'.A y'.n y'.c, .slice z'.A z'.n z'.c] 35)) (w.heap.size + 1) 35 #[.int .i64 c', .int .i64 s', .int .i64 lo', .int .i64 hi', .slice x'.A x'.n x'.c, .slice y'.A y'.n y'.c, .slice z'.A z'.n z'.c] from (show (w.alloc (.cells #[.int .i64 c, .int .i64 s, .int .i64 lo, .int .i64 hi, .slice x.A x.n x.c, .slice y.A y.n y.c, .slice z.A z.n z.c] 35)).heap.size = w.heap.size + 1 by simp) ▸ Bx.new (w.alloc (.cells #[.int .i64 c, .int .i64 s, .int .i64 lo, .int .i64 hi, .slice x.A x.n x.c, .slice y.A y.n y.c, .slice z.A z.n z.c] 35)) 35 #[.int .i64 c', .int .i64 s', .int .i64 lo', .int .i64 hi', .slice x'.A x'.n x'.c, .slice y'.A y'.n y'.c, .slice z'.A z'.n z'.c]))
  clear arg_3 HB_1
  go_wp2_with fail
  refine (sz_callD k c s lo hi 1048576 V (U0.out.below HB_5.out) SZ.out).mono ?_
  rintro e w1 ⟨rfl, hb⟩
  have arg_8 := Aside0.mk (arg_4.out.below hb)
  have brg_9 := Aside0.mk (brg_7.out.below hb)
  have HB_10 := Aside0.mk (below_step HB_5.out hb)
  have Z_11 := Aside0.mk (hb.size)
  clear arg_4 brg_7 HB_5 hb
  obtain ⟨brg11c0, brg11c1, brg11c2, brg11c3, brg11c4, brg11c5, brg11c6⟩ := brg_9.out.cells
  go_wp2_with fail
  clear brg11c0 brg11c1 brg11c2 brg11c3 brg11c4 brg11c5 brg11c6
  refine (sz_callD k c' s' lo' hi' V V' (U1.out.below HB_10.out) SZ'.out).mono ?_
  rintro e w2 ⟨rfl, hb⟩
  have arg_13 := Aside0.mk (arg_8.out.below hb)
  have brg_14 := Aside0.mk (brg_9.out.below hb)
  have HB_15 := Aside0.mk (below_step HB_10.out hb)
  have Z_16 := Aside0.mk (hb.size)
  clear arg_8 brg_9 HB_10 hb
  go_wp2
  go_ret
  exact ⟨rfl, HB_15.out⟩

set_option maxRecDepth 100000 in
theorem law (c s lo hi : Int) (A4 : Option Addr) (c4 : Nat) (h : List Int) (A5 : Option Addr) (c5 : Nat) (r : List Int) (A6 : Option Addr) (c6 : Nat) (R : List (List Int)) (c' s' lo' hi' : Int) (B4 : Option Addr) (d4 : Nat) (h' : List Int) (B5 : Option Addr) (d5 : Nat) (r' : List Int) (B6 : Option Addr) (d6 : Nat) (R' : List (List Int)) (w : World)
    (C4 : (Kd.int .i64).C w A4 h.length h) (l4 : h.length ≤ c4) (C5 : (Kd.int .i64).C w A5 r.length r) (l5 : r.length ≤ c5) (C6 : (Kd.slice 3 (Kd.int .i64)).C w A6 R.length R) (l6 : R.length ≤ c6)
    (E4 : (Kd.int .i64).C w B4 h'.length h') (m4 : h'.length ≤ d4) (E5 : (Kd.int .i64).C w B5 r'.length r') (m5 : r'.length ≤ d5) (E6 : (Kd.slice 3 (Kd.int .i64)).C w B6 R'.length R') (m6 : R'.length ≤ d6)
    (_ : -9223372036854775808 ≤ c ∧ c ≤ 9223372036854775807) (_ : -9223372036854775808 ≤ s ∧ s ≤ 9223372036854775807) (_ : -9223372036854775808 ≤ lo ∧ lo ≤ 9223372036854775807) (_ : -9223372036854775808 ≤ hi ∧ hi ≤ 9223372036854775807)
    (hh : h.length ≤ 9223372036854775807 ∧ ∀ x ∈ h, (-9223372036854775808 ≤ x ∧ x ≤ 9223372036854775807)) (hr : r.length ≤ 9223372036854775807 ∧ ∀ x ∈ r, (-9223372036854775808 ≤ x ∧ x ≤ 9223372036854775807)) (hR : R.length ≤ 9223372036854775807 ∧ ∀ l ∈ R, (l.length ≤ 9223372036854775807 ∧ ∀ x ∈ l, (-9223372036854775808 ≤ x ∧ x ≤ 9223372036854775807)))
    (_ : -9223372036854775808 ≤ c' ∧ c' ≤ 9223372036854775807) (_ : -9223372036854775808 ≤ s' ∧ s' ≤ 9223372036854775807) (_ : -9223372036854775808 ≤ lo' ∧ lo' ≤ 9223372036854775807) (_ : -9223372036854775808 ≤ hi' ∧ hi' ≤ 9223372036854775807)
    (hh' : h'.length ≤ 9223372036854775807 ∧ ∀ x ∈ h', (-9223372036854775808 ≤ x ∧ x ≤ 9223372036854775807)) (hr' : r'.length ≤ 9223372036854775807 ∧ ∀ x ∈ r', (-9223372036854775808 ≤ x ∧ x ≤ 9223372036854775807)) (hR' : R'.length ≤ 9223372036854775807 ∧ ∀ l ∈ R', (l.length ≤ 9223372036854775807 ∧ ∀ x ∈ l, (-9223372036854775808 ≤ x ∧ x ≤ 9223372036854775807))) :
    Calls Try.prog 4 #[.agg #[.int .i64 c, .int .i64 s, .int .i64 lo, .int .i64 hi, .slice A4 h.length c4, .slice A5 r.length c5, .slice A6 R.length c6], .agg #[.int .i64 c', .int .i64 s', .int .i64 lo', .int .i64 hi', .slice B4 h'.length d4, .slice B5 r'.length d5, .slice B6 R'.length d6]] w fun e w' => e = .returned (.bool true) ∧ Below w.heap.size w w' := by
  have u : Rd w ⟨A4, h.length, c4⟩ ⟨A5, r.length, c5⟩ ⟨A6, R.length, c6⟩ h r R := ⟨rfl, rfl, rfl, l4, l5, l6, C4, C5, C6⟩
  have u' : Rd w ⟨B4, h'.length, d4⟩ ⟨B5, r'.length, d5⟩ ⟨B6, R'.length, d6⟩ h' r' R' := ⟨rfl, rfl, rfl, m4, m5, m6, E4, E5, E6⟩
  obtain ⟨V, hv, hle, hall⟩ := szSketch_all c s lo hi h r R 1048576 (by omega) (by omega) hh.1 hr.1 hR.1 (fun x hx => (hR.2 x hx).1)
  by_cases hneg : V < 0
  · obtain ⟨K, hK⟩ := hv
    have q1 : laws_szSketch.f K c s lo hi h r R 1048576 = some V := hK K (Nat.le_refl _)
    have q2 : decide (V < 0) = true := decide_eq_true hneg
    have q3 := law1 K V c s lo hi c' s' lo' hi' _ _ _ ⟨B4, h'.length, d4⟩ ⟨B5, r'.length, d5⟩ ⟨B6, R'.length, d6⟩ h r R w u ⟨q1⟩ q2
    exact q3
  obtain ⟨V', hv', hle', hall'⟩ := szSketch_all c' s' lo' hi' h' r' R' V (by omega) (by omega) hh'.1 hr'.1 hR'.1 (fun x hx => (hR'.2 x hx).1)
  by_cases hneg' : V' < 0
  · obtain ⟨K, hK⟩ := hv
    obtain ⟨K', hK'⟩ := hv'
    have q1 : laws_szSketch.f (K + K') c s lo hi h r R 1048576 = some V := hK (K + K') (by omega)
    have q2 : decide (V < 0) = false := decide_eq_false (by omega)
    have q3 : laws_szSketch.f (K + K') c' s' lo' hi' h' r' R' V = some V' := hK' (K + K') (by omega)
    have q4 : decide (V' < 0) = true := decide_eq_true hneg'
    have q5 := law2 (K + K') V V' c s lo hi c' s' lo' hi' _ _ _ _ _ _ h r h' r' R R' w u u' ⟨q1⟩ q2 ⟨q3⟩ q4
    exact q5
  · obtain ⟨⟨b1, b2, b3, b4⟩, b5⟩ := hall (by omega)
    obtain ⟨⟨b1', b2', b3', b4'⟩, b5'⟩ := hall' (by omega)
    obtain ⟨K1, h1⟩ := hv
    obtain ⟨K1', h1'⟩ := hv'
    obtain ⟨K2, h2⟩ := toSketch_ev c s lo hi h r R b1 b2 b3 b4
    obtain ⟨K2', h2'⟩ := toSketch_ev c' s' lo' hi' h' r' R' b1' b2' b3' b4'
    obtain ⟨K3, h3⟩ := spec_mrg_ev c s lo hi h r R c' s' lo' hi' h' r' R'
    obtain ⟨K4, h4⟩ := impl_mrg_ev c s lo hi h r R c' s' lo' hi' h' r' R'
    obtain ⟨K5, h5⟩ := eqSketch_ev c s lo hi h r R b1 b2 b3 b4
    obtain ⟨K5', h5'⟩ := eqSketch_ev c' s' lo' hi' h' r' R' b1' b2' b3' b4'
    obtain ⟨c1, s1, lo1, hi1, g1, r1, R1, t, e1⟩ : ∃ c1 s1 lo1 hi1 g1 r1 R1 t, mrgV c s lo hi h r R c' s' lo' hi' h' r' R' = (c1, s1, lo1, hi1, g1, r1, R1, t) := ⟨_, _, _, _, _, _, _, _, rfl⟩
    obtain ⟨d1, d2, d3, d4, d5⟩ := mrgV_lens c s lo hi h r R c' s' lo' hi' h' r' R' e1 b4
    rw [e1] at h3 h4
    obtain ⟨K6, h6⟩ := eqSketch_ev c1 s1 lo1 hi1 g1 r1 R1 (by omega) (by omega) (by omega) d5
    obtain ⟨K7, h7⟩ := heldSketch_ev c1 s1 lo1 hi1 1 g1.length r1.length R1 (by omega) (by omega) (by omega) (by omega) (by omega) d5
    generalize hK : K1 + K1' + K2 + K2' + K3 + K4 + K5 + K5' + K6 + K7 + 1048577 = k
    have q1 := h1 k (by omega)
    have q1' := h1' k (by omega)
    have q2 := h2 k (by omega)
    have q2' := h2' k (by omega)
    have q3 := h3 k (by omega)
    have q4 := h4 k (by omega)
    have q5 := h5 k (by omega)
    have q5' := h5' k (by omega)
    have q6 := h6 k (by omega)
    have q7 := h7 k (by omega)
    have q8 : MkI k := mkI k (by omega)
    have f1 : decide (V < 0) = false := decide_eq_false (by omega)
    have f1' : decide (V' < 0) = false := decide_eq_false (by omega)
    have f2 : decide ((1 : Int) + (h.length : Int) + (r.length : Int) + (lensII R : Nat) + (h'.length : Int) + (r'.length : Int) + (lensII R' : Nat) < 0) = false := decide_eq_false (by omega)
    have f3 : decide ((1 : Int) + (g1.length : Int) + (r1.length : Int) + (lensII R1 : Nat) < 0) = false := decide_eq_false (by omega)
    have L := law0 k V V' ((1 : Int) + (h.length : Int) + (r.length : Int) + (lensII R : Nat)) ((1 : Int) + (h.length : Int) + (r.length : Int) + (lensII R : Nat) + (h'.length : Int) + (r'.length : Int) + (lensII R' : Nat)) ((1 : Int) + (g1.length : Int) + (r1.length : Int) + (lensII R1 : Nat)) c s lo hi c' s' lo' hi' c1 s1 lo1 hi1 t _ _ _ _ _ _ h r h' r' g1 r1 R R' R1 w u u' ⟨q1⟩ f1 ⟨q1'⟩ f1' ⟨q2⟩ ⟨q2'⟩ ⟨q3⟩ ⟨q4⟩ ⟨q5⟩ ⟨q5'⟩ ⟨q6⟩ ⟨q8⟩ ⟨rfl, by omega, b1, b2, b3, b4⟩ (by omega) ⟨rfl, by omega, b1', b2', b3', b4'⟩ f2 ⟨rfl, by omega, by omega, by omega, by omega, d5⟩ f3 ⟨q7⟩
    exact L

end Go.Proofs.Ytfknjoebomicnaa.HFnExactMerge
