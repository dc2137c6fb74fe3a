/- Sketched of the program is Sketched of the reference, for all arguments; it leaves its argument as it was, and hands back memory of its own; the law is walked by hand. -/
import Derived.Test.YtkpicmjncfhnmaaDoorPFnExactSketchedx10
import Derived.Test.YtkpicmjncfhnmaaDoorPFnExactSketchedx11
import Derived.Test.YtkpicmjncfhnmaaDoorPFnExactSketchedx5
import Derived.Test.YtkpicmjncfhnmaaDoorAid
import Derived.WalkKit
import Derived.Deep.RegionHeld3
namespace Go.Proofs.YtkpicmjncfhnmaaDoor.HFnExactSketched
open Go.RowKit Go.Proofs.YtkpicmjncfhnmaaDoor.PFnExactSketched Go.Proofs.YtkpicmjncfhnmaaDoorW.PrintWords Go.Proofs.YtkpicmjncfhnmaaDoorW.PrintLast Go.Proofs.YtkpicmjncfhnmaaDoorW.PrintMore Go.Proofs.YtkpicmjncfhnmaaDoor.Aid
set_option linter.unusedVariables false
set_option linter.unusedSimpArgs false

def marksI (k : Int) (n : Nat) : List Int := (List.range n).map fun j : Nat => k + (j : Int)
theorem marksI_length (k : Int) (n : Nat) : (marksI k n).length = n := by simp [marksI]
theorem marksI_get (k : Int) (n i : Nat) (h : i < (marksI k n).length) : (marksI k n)[i] = k + (i : Int) := by simp [marksI]
/-- What a mark writes into rows, one behind the other. -/
def marksII : Int → List (List Int) → List (List Int)
  | _, [] => []
  | k, l :: ls => marksI k l.length :: marksII (k + (l.length : Int)) ls
def lensII : List (List Int) → Nat
  | [] => 0
  | l :: ls => l.length + lensII ls
theorem marksII_length (ls : List (List Int)) : ∀ k, (marksII k ls).length = ls.length := by
  induction ls with
  | nil => intro k; rfl
  | cons l ls ih => intro k; simp [marksII, ih]
theorem lensII_take (ls : List (List Int)) : ∀ i, (h : i < ls.length) → lensII (ls.take (i + 1)) = lensII (ls.take i) + ls[i].length := by
  induction ls with
  | nil => intro i h; simp at h
  | cons l ls ih =>
    intro i h
    cases i with
    | zero => simp [lensII]
    | succ i =>
      have := ih i (by simpa using h)
      simp only [List.take_succ_cons, lensII, List.getElem_cons_succ]
      omega
theorem lensII_le (ls : List (List Int)) : ∀ i, lensII (ls.take i) ≤ lensII ls := by
  induction ls with
  | nil => intro i; simp [lensII]
  | cons l ls ih =>
    intro i
    cases i with
    | zero => simp [lensII]
    | succ i => have := ih i; simp only [List.take_succ_cons, lensII]; omega
theorem marksII_get (ls : List (List Int)) : ∀ (k : Int) (i : Nat) (h : i < ls.length), (marksII k ls)[i]'(by rw [marksII_length]; exact h) = marksI (k + (lensII (ls.take i) : Nat)) ls[i].length := by
  induction ls with
  | nil => intro k i h; simp at h
  | cons l ls ih =>
    intro k i h
    cases i with
    | zero => simp [marksII, lensII]
    | succ i =>
      have := ih (k + (l.length : Int)) i (by simpa using h)
      simp only [marksII, List.getElem_cons_succ, this, List.take_succ_cons, lensII]
      congr 1
      omega
/-- Row by row: those ahead of i are marked. -/
theorem marksII_set (ls : List (List Int)) (k : Int) (i : Nat) (h : i < ls.length) : ((marksII k ls).take i ++ ls.drop i).set i (marksI (k + (lensII (ls.take i) : Nat)) ls[i].length) = (marksII k ls).take (i + 1) ++ ls.drop (i + 1) := by
  have hl : ((marksII k ls).take i).length = i := by rw [List.length_take, marksII_length]; omega
  rw [List.set_append_right _ _ (by omega), hl, Nat.sub_self, List.drop_eq_getElem_cons h, List.set_cons_zero, List.take_succ_eq_append_getElem (by rw [marksII_length]; exact h), marksII_get ls k i h, List.append_assoc]
  rfl
theorem markI_call (k : Nat) {w : World} {a b : Nat} {v : Value} {l : List Int} {ok : Nat → Prop} (k0 : Int) (u : Kd.R (Kd.int .i64) 3 w a ok v l) (hok : ∀ k, ok k → k < b) (ha : a ≤ w.heap.size) (he : laws_markIntS.f k l k0 = some (k0 + (l.length : Int), marksI k0 l.length)) :
    Calls Tryd.prog 49 #[v, .int .i64 k0] w fun e w' => e = .returned (.int .i64 (k0 + (l.length : Int))) ∧ Kd.R (Kd.int .i64) 3 w' a ok v (marksI k0 l.length) ∧ Kp w w' a b ∧ Kept w w' (fun k => some k = v.ownBlock) := by
  -- the world at the row's begin: one with a blocks
  obtain ⟨w0, hw0, hB⟩ : ∃ w0 : World, w0.heap.size = a ∧ Below a w0 w := by
    refine ⟨{ w with heap := w.heap.extract 0 a }, by simp; omega, ⟨rfl, rfl, rfl, by simp; omega, fun i hi => ?_⟩⟩
    simp [Array.getElem?_extract]
    omega
  subst hw0
  have u1 : Kd.R (Kd.int .i64) 3 w w0.heap.size (fun k => some k = v.ownBlock) v l := Kd.R_tight rfl u
  refine (laws_markIntS.calls k (fun k => some k = v.ownBlock) v l k0 _ _ w0 w hB u1 he).mono ?_
  rintro e w' ⟨rfl, hr, hb, hk⟩
  refine ⟨rfl, Kd.R_reok rfl hr (fun k hk => u.1 k hk), ⟨hb.os.trans hB.os.symm, hb.tape.trans hB.tape.symm, hb.output.trans hB.output.symm, hk.mono (fun i hi => ⟨Kd.R_base u i hi.symm, hok i (u.1 i hi.symm)⟩)⟩, hk⟩
set_option maxHeartbeats 4000000 in
theorem markII_call (k : Nat) (hm : Aside0 (∀ (l : List Int) (k0 : Int), l.length ≤ 1048576 → 0 ≤ k0 → k0 ≤ 1073741824 → laws_markIntS.f k l k0 = some (k0 + (l.length : Int), marksI k0 l.length))) {w : World} {a b : Nat} {z : Sl} {R : List (List Int)} {ok : Nat → Prop} (k0 : Int) (u : Kd.S (Kd.slice 3 (Kd.int .i64)) 39 w a ok (.slice z.A z.n z.c) R) (hok : ∀ k, ok k → k < b) (ha : a ≤ w.heap.size)
    (hk0 : 0 ≤ k0) (hkb : k0 + (lensII R : Nat) ≤ 1073741824) (hR : R.length ≤ 1048576) (hl : ∀ l ∈ R, l.length ≤ 1048576) :
    Calls Tryd.prog 97 #[.slice z.A z.n z.c, .int .i64 k0] w fun e w' => e = .returned (.int .i64 (k0 + (lensII R : Nat))) ∧ Kd.S (Kd.slice 3 (Kd.int .i64)) 39 w' a ok (.slice z.A z.n z.c) (marksII k0 R) ∧ Kp w w' a b ∧ Kept w w' ok := by
  have hzn : z.n = R.length := (Kd.S_reads' u).1
  have HZ := Aside0.mk hzn
  have HL := Aside0.mk hl
  have HOK := Aside0.mk hok
  have U := Aside0.mk u
  have HR := Aside0.mk hR
  have HB := Aside0.mk hkb
  have HA := Aside0.mk ha
  have hzm : z.n ≤ 1048576 := by omega
  clear hzn hl hok u hR hkb ha
  go_enter Tryd.func97, Tryd.ntmps97
  go_wp2
  go_loopg [1, 5] z.n (fun gg s1 s5 wr => ∃ i : Nat, i ≤ z.n ∧ z.n - i ≤ gg ∧ s5 = .int .i64 i ∧ s1 = .int .i64 (k0 + (lensII (R.take i) : Nat)) ∧ Aside0 (Kd.S (Kd.slice 3 (Kd.int .i64)) 39 wr a ok (.slice z.A z.n z.c) ((marksII k0 R).take i ++ R.drop i)) ∧ Aside0 (Kp w wr a b) ∧ Aside0 (Kept w wr ok))
  case atStart => exact ⟨0, Nat.zero_le _, by omega, rfl, by simp [lensII], ⟨by simpa using U.out⟩, ⟨Kp.refl _ _ _⟩, ⟨Kept.refl _ _⟩⟩
  case round =>
    obtain ⟨i, hi, hg, rfl, rfl, S, KP, KT⟩ := hrel
    have lk := lensII_le R i
    have lk' : k0 + (lensII (R.take i) : Nat) ≤ 1073741824 := by have := HB.out; omega
    by_cases hlt : i < z.n
    · have hltz : (i : Int) < (z.n : Int) := by omega
      have hiR : i < R.length := by have := HZ.out; omega
      have hcl : ((marksII k0 R).take i ++ R.drop i).length = R.length := by rw [List.length_append, List.length_take, List.length_drop, marksII_length]; omega
      obtain ⟨g, cap, hv, hbg, hgs, _⟩ := Kd.S_form S.out (by rw [hcl]; omega)
      injection hv with hA hn hc
      have S2 := S.out
      rw [hA] at S2
      obtain ⟨oki, c, hcl2, hM, hcell, hoki, hH⟩ := Kd.S_lend S2 ([] : List Int) (i : Int) (by omega) (by omega)
      obtain ⟨v, rfl, hRv⟩ := hM
      have hget : ((marksII k0 R).take i ++ R.drop i).getD (i : Int).toNat [] = R[i] := by
        rw [Int.toNat_natCast, List.getD_eq_getElem?_getD, List.getElem?_append_right (by rw [List.length_take, marksII_length]; omega), List.length_take, marksII_length, Nat.min_eq_left (by omega), Nat.sub_self, List.drop_eq_getElem_cons hiR]
        rfl
      rw [hget] at hRv
      have hc0 := hcell 0 v rfl
      simp only [Int.toNat_natCast, Kd.slice, Nat.mul_one, Nat.add_zero] at hc0
      obtain ⟨A1, c1, rfl⟩ := Kd.R_slice hRv
      have hl1 : R[i].length ≤ 1048576 := HL.out _ (List.getElem_mem hiR)
      have hcall := markI_call (b := b) k (k0 + (lensII (R.take i) : Nat)) hRv (fun q hq => HOK.out q (hoki q hq).1) (Nat.le_trans HA.out KT.out.1) (hm.out _ _ hl1 (by omega) lk')
      have hts := lensII_take R i hiR
      have hset := marksII_set R k0 i hiR
      have HH := Aside0.mk hH
      have HRV := Aside0.mk hRv
      have HOI := Aside0.mk hoki
      have HTS := Aside0.mk hts
      have HSET := Aside0.mk hset
      have HAA := Aside0.mk hA
      clear hcell hcl2 hget hH hRv hoki hts hset S S2 hn hc hA hcl
      have hAz : z.A = some ⟨g, 0, none⟩ := HAA.out
      generalize hzA : z.A = zA at *
      subst hAz
      go_wp2_with (go_at_call 49; refine hcall.mono ?_; rintro e w' ⟨rfl, hr2, hkp, hkt⟩; have HR2 := Aside0.mk hr2; have HKP := Aside0.mk hkp; have HKT := Aside0.mk hkt; clear hr2 hkp hkt)
      go_roundg (z.n - (i + 1))
      case measure => omega
      case rel =>
        refine ⟨i + 1, by omega, by omega, by go_num, by rw [HTS.out]; congr 1; omega, ⟨?_⟩, ⟨KP.out.trans HKP.out⟩, ⟨?_⟩⟩
        · have h1 := Kd.H_kept HH.out HKT.out (fun q hq hn hs => hn (HRV.out.1 q hs.symm))
          have h2 := Kd.H_back h1 (x' := marksI (k0 + (lensII (R.take i) : Nat)) R[i].length) (okp := oki) ⟨_, rfl, HR2.out⟩ (fun _ hq => hq)
          rw [Int.toNat_natCast, HSET.out] at h2
          exact h2
        · exact KT.out.then_ HKT.out (fun q hq => .inl (HOI.out q (HRV.out.1 q hq.symm)).1)
    · have hltz : ¬ (i : Int) < (z.n : Int) := by omega
      have hiz : i = R.length := by have := HZ.out; omega
      have S2 := S.out
      rw [hiz, List.drop_length, List.append_nil, List.take_of_length_le (by rw [marksII_length]; exact Nat.le_refl _)] at S2
      have ht : R.take i = R := by rw [hiz, List.take_length]
      rw [ht]
      have SS := Aside0.mk S2
      clear S2 ht hiz
      go_wp2
      go_ret
      exact ⟨rfl, SS.out, KP.out, KT.out⟩
theorem row_kept {w w' : World} {a e : Nat} {ok S : Nat → Prop} {v : Value} {l : List Int} (u : Kd.R (Kd.int .i64) e w a ok v l) (hk : Kept w w' S) (hne : ∀ k, v.ownBlock = some k → ¬ S k) : Kd.R (Kd.int .i64) e w' a ok v l :=
  Kd.R_reok rfl (Kd.R_kept (Kd.R_tight rfl u) hk (fun k hk' => hne k hk'.symm)) (fun k hk' => u.1 k hk')
def MkI (k : Nat) : Prop := ∀ (l : List Int) (k0 : Int), l.length ≤ 1048576 → 0 ≤ k0 → k0 ≤ 1073741824 → laws_markIntS.f k l k0 = some (k0 + (l.length : Int), marksI k0 l.length)
set_option maxHeartbeats 4000000 in
theorem mark_call (k : Nat) (hm : Aside0 (MkI k)) {w : World} {a b : Nat} {x y z : Sl} {h r : List Int} {R : List (List Int)} (c s mn mx k0 : Int) (u : Sk w a b x y z h r R) (ha : a ≤ w.heap.size) (hb : b ≤ w.heap.size)
    (hk0 : 0 ≤ k0) (hkb : k0 + (h.length : Int) + (r.length : Int) + (lensII R : Nat) ≤ 1073741824) (hh : h.length ≤ 1048576) (hr : r.length ≤ 1048576) (hR : R.length ≤ 1048576) (hl : ∀ l ∈ R, l.length ≤ 1048576) :
    Calls Tryd.prog 50 #[.agg #[.int .i64 c, .int .i64 s, .int .i64 mn, .int .i64 mx, .slice x.A x.n x.c, .slice y.A y.n y.c, .slice z.A z.n z.c], .int .i64 k0] w fun e w' => e = .returned (.int .i64 (k0 + (h.length : Int) + (r.length : Int) + (lensII R : Nat))) ∧
      Sk w' a b x y z (marksI k0 h.length) (marksI (k0 + (h.length : Int)) r.length) (marksII (k0 + (h.length : Int) + (r.length : Int)) R) ∧ Kp w w' a b := by
  obtain ⟨ux, uy, uz⟩ := u
  have hB := Bx.new w 43 #[.int .i64 c, .int .i64 s, .int .i64 mn, .int .i64 mx, .slice x.A x.n x.c, .slice y.A y.n y.c, .slice z.A z.n z.c]
  have hb0 : Below w.heap.size w (w.alloc (.cells #[.int .i64 c, .int .i64 s, .int .i64 mn, .int .i64 mx, .slice x.A x.n x.c, .slice y.A y.n y.c, .slice z.A z.n z.c] 43)) := below_alloc (Below.refl _ _) _
  have call1 := fun W (hW : Below w.heap.size w W) => markI_call (b := b) k k0 (Kd.R_below ux hW) (fun _ hq => hq) (Nat.le_trans ha hW.size) (hm.out h k0 hh hk0 (by omega))
  have call2 := fun W (uy : Kd.R (Kd.int .i64) 3 W a (fun k => k < b ∧ some k ≠ (Value.slice x.A x.n x.c).ownBlock) (.slice y.A y.n y.c) r) (ha : a ≤ W.heap.size) => markI_call (b := b) k (k0 + (h.length : Int)) uy (fun _ hq => hq.1) ha (hm.out r (k0 + (h.length : Int)) hr (by omega) (by omega))
  have call3 := fun W (uz : Kd.S (Kd.slice 3 (Kd.int .i64)) 39 W a (fun k => k < b ∧ some k ≠ (Value.slice x.A x.n x.c).ownBlock ∧ some k ≠ (Value.slice y.A y.n y.c).ownBlock) (.slice z.A z.n z.c) R) (ha : a ≤ W.heap.size) => markII_call (b := b) k ⟨fun l k0 h1 h2 h3 => hm.out l k0 h1 h2 h3⟩ (k0 + (h.length : Int) + (r.length : Int)) uz (fun _ hq => hq.1) ha (by omega) hkb hR hl
  have UX := Aside0.mk ux
  have UY := Aside0.mk uy
  have UZ := Aside0.mk uz
  have HBX := Aside0.mk hB
  have HB0 := Aside0.mk hb0
  have HBB := Aside0.mk hb
  have HA := Aside0.mk ha
  have K1 := Aside0.mk call1
  have K2 := Aside0.mk call2
  have K3 := Aside0.mk call3
  clear ux uy uz hB hb0 hb ha call1 call2 call3 hkb hh hr hR hl hk0
  go_enter Tryd.func50, Tryd.ntmps50
  go_wp2_with fail
  refine (K1.out _ HB0.out).mono ?_
  rintro e w1 ⟨rfl, hr1, hkp1, hkt1⟩
  have bx1 := Bx.kp HBX.out hkp1 (.inr HBB.out)
  have y1 := row_kept (Kd.R_below UY.out HB0.out) hkt1 (fun q hq hs => (UY.out.1 q hq).2 hs)
  have z1 := Kd.S_kept (Kd.S_below UZ.out HB0.out) hkt1 (fun q hq hs => hq.2.1 hs)
  have cells := bx1.cells
  obtain ⟨_, _, _, _, _, c5, _⟩ := cells
  have X1 := Aside0.mk hr1
  have KP1 := Aside0.mk hkp1
  have BX1 := Aside0.mk bx1
  have Y1 := Aside0.mk y1
  have Z1 := Aside0.mk z1
  clear hr1 hkp1 hkt1 bx1 y1 z1
  go_wp2_with fail
  clear c5
  refine (K2.out _ Y1.out (Nat.le_trans HA.out (Nat.le_trans HB0.out.size KP1.out.kept.1))).mono ?_
  rintro e w2 ⟨rfl, hr2, hkp2, hkt2⟩
  have bx2 := Bx.kp BX1.out hkp2 (.inr HBB.out)
  have x2 := row_kept X1.out hkt2 (fun q hq hs => (UY.out.1 q hs.symm).2 hq.symm)
  have z2 := Kd.S_kept Z1.out hkt2 (fun q hq hs => hq.2.2 hs)
  have cells := bx2.cells
  obtain ⟨_, _, _, _, _, _, c6⟩ := cells
  have X2 := Aside0.mk x2
  have KP2 := Aside0.mk (KP1.out.trans hkp2)
  have BX2 := Aside0.mk bx2
  have Y2 := Aside0.mk hr2
  have Z2 := Aside0.mk z2
  clear hr2 hkp2 hkt2 bx2 x2 z2
  go_wp2_with fail
  clear c6
  refine (K3.out _ Z2.out (Nat.le_trans HA.out (Nat.le_trans HB0.out.size KP2.out.kept.1))).mono ?_
  rintro e w3 ⟨rfl, hr3, hkp3, hkt3⟩
  have x3 := row_kept X2.out hkt3 (fun q hq hs => hs.2.1 hq.symm)
  have y3 := row_kept Y2.out hkt3 (fun q hq hs => hs.2.2 hq.symm)
  have S3 := Aside0.mk (show Sk w3 a b x y z _ _ _ from ⟨x3, y3, hr3⟩)
  have KP3 := Aside0.mk (((Kp.of HB0.out).trans KP2.out).trans hkp3)
  clear hr3 hkp3 hkt3 x3 y3
  go_wp2
  go_ret
  exact ⟨rfl, S3.out, KP3.out⟩
theorem mark_callM (k : Nat) (hm : Aside0 (MkI k)) {w : World} {a b : Nat} {x y z : Sl} {h r : List Int} {R : List (List Int)} (c s mn mx k0 M : Int) (u : Sk w a b x y z h r R) (ha : a ≤ w.heap.size) (hb : b ≤ w.heap.size)
    (hk0 : 0 ≤ k0) (lm : Aside0 (k0 + (h.length : Int) + (r.length : Int) + (lensII R : Nat) = M ∧ M ≤ 1073741824 ∧ h.length ≤ 1048576 ∧ r.length ≤ 1048576 ∧ R.length ≤ 1048576 ∧ ∀ l ∈ R, l.length ≤ 1048576)) :
    Calls Tryd.prog 50 #[.agg #[.int .i64 c, .int .i64 s, .int .i64 mn, .int .i64 mx, .slice x.A x.n x.c, .slice y.A y.n y.c, .slice z.A z.n z.c], .int .i64 k0] w fun e w' => e = .returned (.int .i64 M) ∧
      Sk w' a b x y z (marksI k0 h.length) (marksI (k0 + (h.length : Int)) r.length) (marksII (k0 + (h.length : Int) + (r.length : Int)) R) ∧ Kp w w' a b := by
  obtain ⟨h1, h2, h3, h4, h5, h6⟩ := lm.out
  have := mark_call k hm c s mn mx k0 u ha hb hk0 (by omega) h3 h4 h5 h6
  rw [h1] at this
  exact this
theorem rdR_get {xs : List (List Int)} {n : Nat} (h : n < xs.length) : rd_L2 xs (n : Int) = xs[n] := by
  unfold rd_L2
  rw [Int.toNat_natCast, List.getD_eq_getElem?_getD, List.getElem?_eq_getElem h]
  rfl
theorem markI_at (a : Int) (n : Nat) (ha : 0 ≤ a) (hb : a ≤ 1073741824) (hn : n ≤ 1048576) (d : Nat) : ∀ (k i : Nat) (x3 : List Int), d < k → i + d = n → x3.length = n → x3.take i = (marksI a n).take i →
    laws_markIntS.l0 k x3 (a + (i : Int)) (i : Int) = some (a + (n : Int), marksI a n) := by
  induction d with
  | zero =>
    intro k i x3 hk hi hl ht
    obtain ⟨k, rfl⟩ : ∃ m, k = m + 1 := ⟨k - 1, by omega⟩
    simp only [laws_markIntS.l0]
    rw [if_neg (by omega), take_all (ys := marksI a n) (by rw [hl, marksI_length]) (by rw [marksI_length]; omega) ht, show i = n by omega]
  | succ d ih =>
    intro k i x3 hk hi hl ht
    obtain ⟨k, rfl⟩ : ∃ m, k = m + 1 := ⟨k - 1, by omega⟩
    simp only [laws_markIntS.l0]
    rw [if_pos (by omega), if_pos (by omega), w64 (x := (i : Int) + 1) (by omega) (by omega), w64 (x := a + (i : Int) + 1) (by omega) (by omega), Int.toNat_natCast]
    have e := ih k (i + 1) (x3.set i (a + (i : Int))) (by omega) (by omega) (by simp [hl]) (by
      have hm : a + (i : Int) = (marksI a n)[i]'(by rw [marksI_length]; omega) := by rw [marksI_get]
      rw [hm]
      exact take_set (ys := marksI a n) (by rw [hl, marksI_length]) (by rw [marksI_length]; omega) ht)
    rw [show (i : Int) + 1 = ((i + 1 : Nat) : Int) by omega, show a + (i : Int) + 1 = a + ((i + 1 : Nat) : Int) by omega]
    exact e
theorem mkI (k : Nat) (hk : 1048577 ≤ k) : MkI k := by
  intro l k0 hl h0 h1
  have := markI_at k0 l.length h0 h1 hl l.length k 0 l (by omega) (by omega) rfl (by simp)
  simpa [laws_markIntS.f] using this
theorem heldI_at (a : Int) (n : Nat) (ha : 0 ≤ a) (hb : a ≤ 1073741824) (hn : n ≤ 1048576) (d : Nat) : ∀ i : Nat, i + d = n →
    Ev (fun k => laws_heldIntS.l0 k (marksI a n) (a + (i : Int)) (i : Int)) (a + (n : Int)) := by
  induction d with
  | zero =>
    intro i hi
    refine Ev.step (fun _ => rfl) ?_
    simp only [laws_heldIntS.l0]
    exact ev_neg (by rw [marksI_length]; omega) (ev_some (by rw [show i = n by omega]))
  | succ d ih =>
    intro i hi
    refine Ev.step (fun _ => rfl) ?_
    simp only [laws_heldIntS.l0]
    have hl := marksI_length a n
    refine ev_pos (by omega) (ev_pos (by omega) (ev_pos (by rw [rd_get (show i < (marksI a n).length by omega), marksI_get]) ?_))
    rw [w64 (x := (i : Int) + 1) (by omega) (by omega), w64 (x := a + (i : Int) + 1) (by omega) (by omega), show (i : Int) + 1 = ((i + 1 : Nat) : Int) by omega, show a + (i : Int) + 1 = a + ((i + 1 : Nat) : Int) by omega]
    exact ih (i + 1) (by omega)
theorem heldI_ev (a : Int) (n : Nat) (ha : 0 ≤ a) (hb : a ≤ 1073741824) (hn : n ≤ 1048576) : Ev (fun k => laws_heldIntS.f k (marksI a n) a) (a + (n : Int)) := by
  have := heldI_at a n ha hb hn n 0 (by omega)
  simpa [laws_heldIntS.f] using this
theorem heldII_at (a : Int) (R : List (List Int)) (ha : 0 ≤ a) (hb : a + (lensII R : Nat) ≤ 1073741824) (hR : R.length ≤ 1048576) (hl : ∀ l ∈ R, l.length ≤ 1048576) (d : Nat) : ∀ i : Nat, i + d = R.length →
    Ev (fun k => laws_heldIntSS.l0 k (marksII a R) (a + (lensII (R.take i) : Nat)) (i : Int)) (a + (lensII R : Nat)) := by
  induction d with
  | zero =>
    intro i hi
    refine Ev.step (fun _ => rfl) ?_
    simp only [laws_heldIntSS.l0]
    exact ev_neg (by rw [marksII_length]; omega) (ev_some (by rw [show i = R.length by omega, List.take_length]))
  | succ d ih =>
    intro i hi
    refine Ev.step (fun _ => rfl) ?_
    simp only [laws_heldIntSS.l0]
    have hlen := marksII_length R a
    have hiR : i < R.length := by omega
    have hle := lensII_le R i
    have ht := lensII_take R i hiR
    have hg : rd_L2 (marksII a R) (i : Int) = marksI (a + (lensII (R.take i) : Nat)) R[i].length := by rw [rdR_get (show i < (marksII a R).length by omega), marksII_get R a i hiR]
    rw [hg, wsucc (by omega)]
    refine ev_pos (by omega) (ev_pos (by omega) (Ev.bind (heldI_ev (a + (lensII (R.take i) : Nat)) R[i].length (by omega) (by omega) (hl _ (List.getElem_mem hiR))) (ev_neg (by omega) ?_)))
    rw [show a + (lensII (R.take i) : Nat) + (R[i].length : Int) = a + (lensII (R.take (i + 1)) : Nat) by omega]
    exact ih (i + 1) (by omega)
theorem heldSketch_ev (c s mn mx a : Int) (n m : Nat) (R : List (List Int)) (ha : 0 ≤ a) (hb : a + (n : Int) + (m : Int) + (lensII R : Nat) ≤ 1073741824) (hn : n ≤ 1048576) (hm : m ≤ 1048576) (hR : R.length ≤ 1048576) (hl : ∀ l ∈ R, l.length ≤ 1048576) :
    Ev (fun k => laws_heldSketch.f k c s mn mx (marksI a n) (marksI (a + (n : Int)) m) (marksII (a + (n : Int) + (m : Int)) R) a) (a + (n : Int) + (m : Int) + (lensII R : Nat)) := by
  unfold laws_heldSketch.f
  refine Ev.bind (heldI_ev a n ha (by omega) hn) (ev_neg (by omega) (Ev.bind (heldI_ev (a + (n : Int)) m (by omega) (by omega) hm) (ev_neg (by omega) ?_)))
  have := heldII_at (a + (n : Int) + (m : Int)) R (by omega) hb hR hl R.length 0 (by omega)
  rw [show lensII (R.take 0) = 0 from by simp [lensII]] at this
  exact Ev.bind (by simpa [laws_heldIntSS.f] using this) (ev_neg (by omega) (ev_some rfl))
theorem eq_callD (k : Nat) {w : World} {x y z x' y' z' : Sl} {h r : List Int} {R : List (List Int)} (c s mn mx : Int) (u : Rd w x y z h r R) (u' : Rd w x' y' z' h r R) (he : laws_eqSketch.f k c s mn mx h r R c s mn mx h r R = some true) :
    Calls Tryd.prog 47 #[.agg #[.int .i64 c, .int .i64 s, .int .i64 mn, .int .i64 mx, .slice x.A x.n x.c, .slice y.A y.n y.c, .slice z.A z.n z.c], .agg #[.int .i64 c, .int .i64 s, .int .i64 mn, .int .i64 mx, .slice x'.A x'.n x'.c, .slice y'.A y'.n y'.c, .slice z'.A z'.n z'.c]] w fun e w' => e = .returned (.bool true) ∧ Below w.heap.size w w' := by
  rw [u.e4, u.e5, u.e6, u'.e4, u'.e5, u'.e6]
  exact laws_eqSketch.calls k c s mn mx _ _ h _ _ r _ _ R c s mn mx _ _ h _ _ r _ _ R true w u.C4 u.l4 u.C5 u.l5 u.C6 u.l6 u'.C4 u'.l4 u'.C5 u'.l5 u'.C6 u'.l6 ⟨rfl⟩ he
theorem held_callD (k : Nat) {w : World} {x y z : Sl} {h r : List Int} {R : List (List Int)} (c s mn mx k0 k1 : Int) (u : Rd w x y z h r R) (he : laws_heldSketch.f k c s mn mx h r R k0 = some k1) :
    Calls Tryd.prog 51 #[.agg #[.int .i64 c, .int .i64 s, .int .i64 mn, .int .i64 mx, .slice x.A x.n x.c, .slice y.A y.n y.c, .slice z.A z.n z.c], .int .i64 k0] w fun e w' => e = .returned (.int .i64 k1) ∧ Below w.heap.size w w' := by
  rw [u.e4, u.e5, u.e6]
  exact laws_heldSketch.calls k c s mn mx _ _ h _ _ r _ _ R k0 k1 w u.C4 u.l4 u.C5 u.l5 u.C6 u.l6 he
/-- Numbers of one's own, by the blocks that they lie in. -/
def Il (w : World) (a b : Nat) (v : Sl) (l : List Int) : Prop := Kd.R (Kd.int .i64) 3 w a (fun k => k < b) (.slice v.A v.n v.c) l
structure Ir (w : World) (v : Sl) (l : List Int) : Prop where
  e : v.n = l.length
  le : l.length ≤ v.c
  C : (Kd.int .i64).C w v.A l.length l
section
variable {w w1 : World} {a b a' b' : Nat} {v : Sl} {l : List Int}
theorem Il.step (s : Il w a b v l) (hm : ∀ k, a ≤ k → k < b → k < w.heap.size → w1.heap[k]? = w.heap[k]?) : Il w1 a b v l := Kd.R_mono (Kd.R_move (Kd.R_bound s) (fun k hk => hm k hk.2.1 hk.1 hk.2.2.1)) (fun _ hk => hk.1)
theorem Il.below (s : Il w a b v l) (hb : Below w.heap.size w w1) : Il w1 a b v l := s.step (fun k _ _ hl => hb.block k hl)
theorem Il.kp (s : Il w a' b' v l) (k : Kp w w1 a b) (ha : b ≤ a' ∨ b' ≤ a) : Il w1 a' b' v l := s.step (fun i h1 h2 h3 => k.kept.2 i h3 (fun hs => by omega))
theorem Il.rd (s : Il w a b v l) : Ir w v l := by
  obtain ⟨h1, h2, h3⟩ := Kd.R_reads' s
  exact ⟨h1, by omega, h3⟩
theorem Ir.below (s : Ir w v l) (hb : Below w.heap.size w w1) : Ir w1 v l := ⟨s.e, s.le, Kd.C_below s.C hb⟩
theorem Il.of {base : Nat} {ok : Nat → Prop} {u : Value} (h : Kd.R (Kd.int .i64) 3 w base ok u l) : ∃ v : Sl, u = .slice v.A v.n v.c ∧ Il w base w.heap.size v l := by
  obtain ⟨A, c, rfl⟩ := Kd.R_slice h
  exact ⟨⟨A, _, c⟩, rfl, Kd.R_mono (Kd.R_bound h) (fun _ hk => hk.2.2.1)⟩
end
theorem toI_callD (k : Nat) {w : World} {v : Sl} {l : List Int} (u : Ir w v l) (he : laws_toIntS.f k l = some l) :
    Calls Tryd.prog 46 #[.slice v.A v.n v.c] w fun e w' => ∃ (v' : Sl) (a b : Nat), e = .returned (.slice v'.A v'.n v'.c) ∧ Il w' a b v' l ∧ Made w w' a b ∧ Below w.heap.size w w' := by
  rw [u.e]
  refine (laws_toIntS.calls k _ _ l l w u.C u.le he).mono ?_
  rintro e w' ⟨v4, rfl, h4, hb⟩
  obtain ⟨v', rfl, hs⟩ := Il.of h4
  exact ⟨v', _, _, rfl, hs, ⟨Nat.le_refl _, hb.size, Nat.le_refl _⟩, hb⟩
theorem eqI_callD (k : Nat) {w : World} {v v' : Sl} {l : List Int} (u : Ir w v l) (u' : Ir w v' l) (he : laws_eqIntS.f k l l = some true) :
    Calls Tryd.prog 48 #[.slice v.A v.n v.c, .slice v'.A v'.n v'.c] w fun e w' => e = .returned (.bool true) ∧ Below w.heap.size w w' := by
  rw [u.e, u'.e]
  exact (laws_eqIntS.calls k _ _ l _ _ l true w u.C u.le u'.C u'.le ⟨rfl⟩ he).mono fun e w' ⟨h1, h2⟩ => ⟨h1, by first | exact h2 | exact h2.below⟩
theorem markI_callD (k : Nat) (hm : Aside0 (MkI k)) {w : World} {a b : Nat} {v : Sl} {l : List Int} (M : Int) (u : Il w a b v l) (ha : a ≤ w.heap.size) (lm : Aside0 ((1 : Int) + (l.length : Int) = M ∧ l.length ≤ 1048576)) :
    Calls Tryd.prog 49 #[.slice v.A v.n v.c, .int .i64 1] w fun e w' => e = .returned (.int .i64 M) ∧ Il w' a b v (marksI 1 l.length) ∧ Kp w w' a b := by
  obtain ⟨h1, h2⟩ := lm.out
  refine (markI_call (b := b) k 1 u (fun _ hk => hk) ha (hm.out l 1 h2 (by omega) (by omega))).mono ?_
  rintro e w' ⟨rfl, hr, hk, _⟩
  exact ⟨by rw [h1], hr, hk⟩
theorem specS_callD (k : Nat) {w : World} {v : Sl} {l : List Int} (c s lo hi : Int) (h r : List Int) (R : List (List Int)) (u : Ir w v l) (he : spec_Sketched.f k l = some (c, s, lo, hi, h, r, R)) :
    Calls Tryd.prog 38 #[.slice v.A v.n v.c] w fun e w' => ∃ (x' y' z' : Sl) (a b : Nat), e = .returned (.agg #[.int .i64 c, .int .i64 s, .int .i64 lo, .int .i64 hi, .slice x'.A x'.n x'.c, .slice y'.A y'.n y'.c, .slice z'.A z'.n z'.c]) ∧ Sk w' a b x' y' z' h r R ∧ Made w w' a b ∧ Below w.heap.size w w' := by
  rw [u.e]
  refine (spec_Sketched.calls k _ _ l c s lo hi h r R w u.C u.le he).mono ?_
  rintro e w' ⟨v4, v5, v6, rfl, h4, h5, h6, hb⟩
  obtain ⟨x', y', z', rfl, rfl, rfl, hs⟩ := Sk.of h4 h5 h6 (fun _ hk => hk) (fun _ hk => hk)
  exact ⟨x', y', z', _, _, rfl, hs, ⟨Nat.le_refl _, hb.size, Nat.le_refl _⟩, hb⟩
theorem implS_callD (k : Nat) {w : World} {v : Sl} {l : List Int} (c s lo hi : Int) (h r : List Int) (R : List (List Int)) (hT : Tabs w) (u : Ir w v l) (he : impl_Sketched.f k l = some (c, s, lo, hi, h, r, R)) :
    Calls Tryd.prog 36 #[.slice v.A v.n v.c] w fun e w' => ∃ (x' y' z' : Sl) (a b : Nat), e = .returned (.agg #[.int .i64 c, .int .i64 s, .int .i64 lo, .int .i64 hi, .slice x'.A x'.n x'.c, .slice y'.A y'.n y'.c, .slice z'.A z'.n z'.c]) ∧ Sk w' a b x' y' z' h r R ∧ Made w w' a b ∧ Below w.heap.size w w' := by
  rw [u.e]
  refine (impl_Sketched.calls k _ _ l c s lo hi h r R w hT u.C u.le he).mono ?_
  rintro e w' ⟨v4, v5, v6, rfl, h4, h5, h6, hb⟩
  obtain ⟨x', y', z', rfl, rfl, rfl, hs⟩ := Sk.of h4 h5 h6 (fun _ hk => hk) (fun _ hk => hk)
  exact ⟨x', y', z', _, _, rfl, hs, ⟨Nat.le_refl _, hb.size, Nat.le_refl _⟩, hb⟩
theorem toIntS_at (x0 : List Int) (hn : x0.length ≤ 1048576) (d : Nat) : ∀ (i : Nat) (x3 : List Int), i + d = x0.length → x3.length = x0.length → x3.take i = x0.take i →
    Ev (fun k => laws_toIntS.l0 k x0 x3 (i : Int)) x0 := by
  induction d with
  | zero =>
    intro i x3 hi hl ht
    refine Ev.step (fun _ => rfl) ?_
    simp only [laws_toIntS.l0]
    refine ev_neg (by omega) (ev_some (take_all hl (by omega) ht))
  | succ d ih =>
    intro i x3 hi hl ht
    refine Ev.step (fun _ => rfl) ?_
    simp only [laws_toIntS.l0]
    refine ev_pos (by omega) (ev_pos (by omega) (ev_pos (by omega) ?_))
    rw [wsucc (by omega), rd_get (show i < x0.length by omega), Int.toNat_natCast]
    exact ih (i + 1) _ (by omega) (by simp [hl]) (take_set hl (by omega) ht)
theorem toIntS_ev (x0 : List Int) (hn : x0.length ≤ 1048576) : Ev (fun k => laws_toIntS.f k x0) x0 := by
  unfold laws_toIntS.f
  refine ev_pos (by omega) (ev_pos (by omega) ?_)
  exact toIntS_at x0 hn x0.length 0 _ (by omega) (by simp) (by simp)
theorem eqIntS_at (x0 : List Int) (hn : x0.length ≤ 1048576) (d : Nat) : ∀ (i : Nat), i + d = x0.length →
    Ev (fun k => laws_eqIntS.l0 k x0 x0 (i : Int)) true := by
  induction d with
  | zero =>
    intro i hi
    refine Ev.step (fun _ => rfl) ?_
    simp only [laws_eqIntS.l0]
    refine ev_neg (by omega) (ev_some rfl)
  | succ d ih =>
    intro i hi
    refine Ev.step (fun _ => rfl) ?_
    simp only [laws_eqIntS.l0]
    refine ev_pos (by omega) (ev_pos (by omega) (ev_pos (by omega) (ev_pos (by trivial) ?_)))
    rw [wsucc (by omega)]
    exact ih (i + 1) (by omega)
theorem eqIntS_ev (x0 : List Int) (hn : x0.length ≤ 1048576) : Ev (fun k => laws_eqIntS.f k x0 x0) true := by
  unfold laws_eqIntS.f
  exact ev_pos (by trivial) (eqIntS_at x0 hn x0.length 0 (by omega))
theorem eqIntSS_at (x0 : List (List Int)) (hn : x0.length ≤ 1048576) (hx : ∀ x ∈ x0, x.length ≤ 1048576) (d : Nat) : ∀ (i : Nat), i + d = x0.length →
    Ev (fun k => laws_eqIntSS.l0 k x0 x0 (i : Int)) true := by
  induction d with
  | zero =>
    intro i hi
    refine Ev.step (fun _ => rfl) ?_
    simp only [laws_eqIntSS.l0]
    refine ev_neg (by omega) (ev_some rfl)
  | succ d ih =>
    intro i hi
    refine Ev.step (fun _ => rfl) ?_
    simp only [laws_eqIntSS.l0]
    rw [wsucc (by omega), rdR_get (show i < x0.length by omega)]
    refine ev_pos (by omega) (ev_pos (by omega) (ev_pos (by omega) (Ev.bind (eqIntS_ev _ (hx _ (List.getElem_mem (by omega)))) (ev_pos (by trivial) ?_))))
    exact ih (i + 1) (by omega)
theorem eqIntSS_ev (x0 : List (List Int)) (hn : x0.length ≤ 1048576) (hx : ∀ x ∈ x0, x.length ≤ 1048576) : Ev (fun k => laws_eqIntSS.f k x0 x0) true := by
  unfold laws_eqIntSS.f
  exact ev_pos (by trivial) (eqIntSS_at x0 hn hx x0.length 0 (by omega))
theorem eqSketch_ev (c s mn mx : Int) (h r : List Int) (R : List (List Int)) (hh : h.length ≤ 1048576) (hr : r.length ≤ 1048576) (hR : R.length ≤ 1048576) (hx : ∀ x ∈ R, x.length ≤ 1048576) :
    Ev (fun k => laws_eqSketch.f k c s mn mx h r R c s mn mx h r R) true := by
  unfold laws_eqSketch.f
  refine ev_pos (by trivial) (ev_pos (by trivial) (ev_pos (by trivial) (ev_pos (by trivial) ?_)))
  exact Ev.bind (eqIntS_ev h hh) (ev_pos (by trivial) (Ev.bind (eqIntS_ev r hr) (ev_pos (by trivial) (Ev.bind (eqIntSS_ev R hR hx) (ev_pos (by trivial) (ev_some rfl))))))
theorem within_is (a b c : Int) : impl_within.f a b c = some (decide (b ≤ a ∧ a ≤ c)) := in_is a b c
theorem l1In_is (a b c : Int) : spec_l1In.f a b c = some (decide (b ≤ a ∧ a ≤ c)) := in_is a b c
/-- A list of so many numbers from 0 to a most, all 0 where that is asked. -/
def LiOk (xs : List Int) (n : Nat) (most : Int) (zero : Prop) : Prop := xs.length = n ∧ ∀ x ∈ xs, (0 ≤ x ∧ x ≤ most) ∧ (zero → x = 0)
/-- A summary is right. -/
def SkOk (c s mn mx : Int) (h r : List Int) (R : List (List Int)) : Prop :=
  (0 ≤ c ∧ c ≤ 1000000000) ∧ (0 ≤ s ∧ s ≤ 1000000000) ∧ (0 ≤ mn ∧ mn ≤ 1000000) ∧ (0 ≤ mx ∧ mx ≤ 1000000) ∧ mn ≤ mx ∧ R.length = 2 ∧ (c = 0 → s = 0 ∧ mx = 0) ∧
  LiOk h 8 1000000000 (c = 0) ∧ LiOk r 8 17 (c = 0) ∧ LiOk (rd_L2 R 0) 4 1000000000 (c = 0) ∧ LiOk (rd_L2 R 1) 4 1000000000 (c = 0)
noncomputable def skOk (c s mn mx : Int) (h r : List Int) (R : List (List Int)) : Bool := @decide (SkOk c s mn mx h r R) (Classical.propDecidable _)
theorem skOk_true {c s mn mx : Int} {h r : List Int} {R : List (List Int)} : skOk c s mn mx h r R = true ↔ SkOk c s mn mx h r R := by
  unfold skOk
  exact @decide_eq_true_iff _ (Classical.propDecidable _)
theorem skOk_false {c s mn mx : Int} {h r : List Int} {R : List (List Int)} (hn : ¬ SkOk c s mn mx h r R) : skOk c s mn mx h r R = false := by
  cases e : skOk c s mn mx h r R with
  | false => rfl
  | true => exact absurd (skOk_true.1 e) hn
theorem l3List_at (xs : List Int) (n : Nat) (most : Int) (z : Bool) (hn : n ≤ 8) (hl : xs.length = n) (r : Bool) (d : Nat) : ∀ i : Nat, i + d = n →
    ((∀ x ∈ xs.drop i, (0 ≤ x ∧ x ≤ most) ∧ (z = true → x = 0)) → r = true) → (¬ (∀ x ∈ xs.drop i, (0 ≤ x ∧ x ≤ most) ∧ (z = true → x = 0)) → r = false) →
    Ev (fun k => spec_l3List.l0 k xs (n : Int) most z (i : Int)) r := by
  induction d with
  | zero =>
    intro i hi h1 _
    refine Ev.step (fun _ => rfl) ?_
    simp only [spec_l3List.l0]
    refine ev_neg (by omega) (ev_some ?_)
    rw [h1]
    intro x hx
    rw [List.drop_of_length_le (by omega)] at hx
    cases hx
  | succ d ih =>
    intro i hi h1 h2
    have hg : i < xs.length := by omega
    rw [List.drop_eq_getElem_cons hg] at h1 h2
    refine Ev.step (fun _ => rfl) ?_
    simp only [spec_l3List.l0]
    rw [wsucc (by omega), rd_get hg]
    refine ev_pos (by omega) (ev_pos (by omega) (ev_pos (by omega) (ev_bind0 (l1In_is _ _ _) ?_)))
    by_cases c : 0 ≤ xs[i] ∧ xs[i] ≤ most
    · refine ev_pos (decide_eq_true c) ?_
      have hrec : (z = true → xs[i] = 0) → Ev (fun k => spec_l3List.l0 k xs (n : Int) most z ((i + 1 : Nat) : Int)) r := by
        intro hz
        refine ih (i + 1) (by omega) (fun h => h1 fun x hx => ?_) (fun h => h2 fun g => h fun x hx => g x (List.mem_cons_of_mem _ hx))
        rcases List.mem_cons.1 hx with rfl | hx
        · exact ⟨c, hz⟩
        · exact h x hx
      by_cases hz : z = true
      · refine ev_pos hz ?_
        by_cases h0 : xs[i] = 0
        · exact ev_pos h0 (hrec fun _ => h0)
        · refine ev_neg h0 (ev_some ?_)
          exact (h2 fun g => h0 ((g _ List.mem_cons_self).2 hz)).symm
      · exact ev_neg hz (hrec fun h => absurd h hz)
    · refine ev_neg (by rw [decide_eq_false c]; exact Bool.false_ne_true) (ev_some ?_)
      exact (h2 fun g => c (g _ List.mem_cons_self).1).symm
theorem l3List_ev (xs : List Int) (n : Nat) (most : Int) (z : Bool) (hn : n ≤ 8) (r : Bool) (h1 : LiOk xs n most (z = true) → r = true) (h2 : ¬ LiOk xs n most (z = true) → r = false) : Ev (fun k => spec_l3List.f k xs (n : Int) most z) r := by
  unfold spec_l3List.f
  by_cases hl : xs.length = n
  · exact ev_pos (by omega) (l3List_at xs n most z hn hl r n 0 (by omega) (fun h => h1 ⟨hl, h⟩) (fun h => h2 fun g => h g.2))
  · exact ev_neg (by omega) (ev_some (h2 fun g => hl g.1).symm)
theorem l3List_dec (xs : List Int) (n : Nat) (most : Int) (z : Bool) (hn : n ≤ 8) (Z : Prop) (hz : (z = true) = Z) : Ev (fun k => spec_l3List.f k xs (n : Int) most z) (@decide (LiOk xs n most Z) (Classical.propDecidable _)) := by
  subst hz
  exact l3List_ev xs n most z hn _ (fun h => @decide_eq_true _ (Classical.propDecidable _) h) (fun h => @decide_eq_false _ (Classical.propDecidable _) h)
theorem spec_sketchOk_j1 (c s mn mx : Int) (h r : List Int) (R : List (List Int)) (hR : R.length = 2) (f : Bool) (v : Bool)
    (hv : f = false → LiOk h 8 1000000000 (c = 0) → LiOk r 8 17 (c = 0) → LiOk (rd_L2 R 0) 4 1000000000 (c = 0) → LiOk (rd_L2 R 1) 4 1000000000 (c = 0) → v = true)
    (hn : ¬ (f = false ∧ LiOk h 8 1000000000 (c = 0) ∧ LiOk r 8 17 (c = 0) ∧ LiOk (rd_L2 R 0) 4 1000000000 (c = 0) ∧ LiOk (rd_L2 R 1) 4 1000000000 (c = 0)) → v = false) :
    Ev (fun k => spec_SketchOk.j1 k (c == 0) f c s mn mx h r R) v := by
  have ez : ((c == 0) = true) = (c = 0) := by simp
  refine Ev.step (fun _ => rfl) ?_
  simp only [spec_SketchOk.j1]
  refine ev_if (fun hf => ev_some (hn fun g => by rw [hf] at g; exact absurd g.1 (by simp)).symm) (fun hf => ?_)
  have hf' : f = false := by simpa using hf
  have L := fun xs n most hn => l3List_dec xs n most (c == 0) hn (c = 0) ez
  refine Ev.bind (L h 8 1000000000 (by omega)) ?_
  refine ev_if (fun g1 => ?_) (fun g1 => ev_some (hn fun g => g1 (@decide_eq_true _ (Classical.propDecidable _) g.2.1)).symm)
  refine Ev.bind (L r 8 17 (by omega)) ?_
  refine ev_if (fun g2 => ?_) (fun g2 => ev_some (hn fun g => g2 (@decide_eq_true _ (Classical.propDecidable _) g.2.2.1)).symm)
  refine ev_pos (by omega) (Ev.bind (L (rd_L2 R 0) 4 1000000000 (by omega)) ?_)
  refine ev_if (fun g3 => ?_) (fun g3 => ev_some (hn fun g => g3 (@decide_eq_true _ (Classical.propDecidable _) g.2.2.2.1)).symm)
  refine ev_pos (by omega) (Ev.bind (L (rd_L2 R 1) 4 1000000000 (by omega)) (ev_some ?_))
  have t1 := @of_decide_eq_true _ (Classical.propDecidable _) g1
  have t2 := @of_decide_eq_true _ (Classical.propDecidable _) g2
  have t3 := @of_decide_eq_true _ (Classical.propDecidable _) g3
  by_cases t4 : LiOk (rd_L2 R 1) 4 1000000000 (c = 0)
  · rw [hv hf' t1 t2 t3 t4]
    exact @decide_eq_true _ (Classical.propDecidable _) t4
  · rw [hn fun g => t4 g.2.2.2.2]
    exact @decide_eq_false _ (Classical.propDecidable _) t4
theorem spec_sketchOk_ev (c s mn mx : Int) (h r : List Int) (R : List (List Int)) : Ev (fun k => spec_SketchOk.f k c s mn mx h r R) (skOk c s mn mx h r R) := by
  have bad : ¬ SkOk c s mn mx h r R → Ev (fun k => spec_SketchOk.j0 k true c s mn mx h r R) (skOk c s mn mx h r R) := by
    intro hb
    refine Ev.step (fun _ => rfl) ?_
    simp only [spec_SketchOk.j0]
    exact ev_pos (by trivial) (ev_some (skOk_false hb).symm)
  unfold spec_SketchOk.f
  refine ev_bind0 (l1In_is _ _ _) ?_
  by_cases a1 : 0 ≤ c ∧ c ≤ 1000000000
  case neg => exact ev_neg (by rw [decide_eq_false a1]; exact Bool.false_ne_true) (bad fun g => a1 g.1)
  refine ev_pos (decide_eq_true a1) (ev_bind0 (l1In_is _ _ _) ?_)
  by_cases a2 : 0 ≤ s ∧ s ≤ 1000000000
  case neg => exact ev_neg (by rw [decide_eq_false a2]; exact Bool.false_ne_true) (bad fun g => a2 g.2.1)
  refine ev_pos (decide_eq_true a2) (ev_bind0 (l1In_is _ _ _) ?_)
  by_cases a3 : 0 ≤ mn ∧ mn ≤ 1000000
  case neg => exact ev_neg (by rw [decide_eq_false a3]; exact Bool.false_ne_true) (bad fun g => a3 g.2.2.1)
  refine ev_pos (decide_eq_true a3) (ev_bind0 (l1In_is _ _ _) ?_)
  by_cases a4 : 0 ≤ mx ∧ mx ≤ 1000000
  case neg => exact ev_neg (by rw [decide_eq_false a4]; exact Bool.false_ne_true) (bad fun g => a4 g.2.2.2.1)
  refine ev_pos (decide_eq_true a4) ?_
  by_cases a5 : mn ≤ mx
  case neg => exact ev_pos (by omega) (bad fun g => a5 g.2.2.2.2.1)
  refine ev_neg (by omega) ?_
  by_cases a6 : R.length = 2
  case neg =>
    have e : ((R.length : Int) != 2) = true := by simp; omega
    rw [e]
    exact bad fun g => a6 g.2.2.2.2.2.1
  have e : ((R.length : Int) != 2) = false := by simp; omega
  rw [e]
  refine Ev.step (fun _ => rfl) ?_
  simp only [spec_SketchOk.j0]
  refine ev_neg (by simp) ?_
  have fin : ∀ f : Bool, (f = false ↔ (c = 0 → s = 0 ∧ mx = 0)) → Ev (fun k => spec_SketchOk.j1 k (c == 0) f c s mn mx h r R) (skOk c s mn mx h r R) := by
    intro f hf
    refine spec_sketchOk_j1 c s mn mx h r R a6 f _ (fun g1 g2 g3 g4 g5 => skOk_true.2 ⟨a1, a2, a3, a4, a5, a6, hf.1 g1, g2, g3, g4, g5⟩) (fun g => skOk_false fun q => g ⟨hf.2 q.2.2.2.2.2.2.1, q.2.2.2.2.2.2.2⟩)
  refine ev_if (fun z => ?_) (fun z => fin false ⟨fun _ h => absurd h z, fun _ => rfl⟩)
  refine ev_if (fun z2 => fin _ ?_) (fun z2 => fin true ⟨fun h => by simp at h, fun h => absurd (h z).1 z2⟩)
  constructor
  · intro h _
    exact ⟨z2, by simpa using h⟩
  · intro h
    simpa using (h z).2
theorem sum_bd (ys : List Int) (h : ∀ x ∈ ys, 0 ≤ x ∧ x ≤ 1000000000) : 0 ≤ ys.sum ∧ ys.sum ≤ ys.length * 1000000000 := by
  induction ys with
  | nil => simp
  | cons y ys ih =>
    have h1 := h y List.mem_cons_self
    have h2 := ih fun x hx => h x (List.mem_cons_of_mem _ hx)
    rw [List.sum_cons, List.length_cons]
    omega
theorem sum_zero (ys : List Int) (h : ∀ x ∈ ys, 0 ≤ x ∧ x ≤ 1000000000) (h0 : ys.sum = 0) : ∀ x ∈ ys, x = 0 := by
  induction ys with
  | nil => exact fun x hx => by cases hx
  | cons y ys ih =>
    intro x hx
    have h1 := h y List.mem_cons_self
    have h2 := sum_bd ys fun x hx => h x (List.mem_cons_of_mem _ hx)
    rw [List.sum_cons] at h0
    rcases List.mem_cons.1 hx with rfl | hx
    · omega
    · exact ih (fun x hx => h x (List.mem_cons_of_mem _ hx)) (by omega) x hx
theorem zero_sum (ys : List Int) (h : ∀ x ∈ ys, x = 0) : ys.sum = 0 := by
  induction ys with
  | nil => rfl
  | cons y ys ih =>
    rw [List.sum_cons, h y List.mem_cons_self, ih fun x hx => h x (List.mem_cons_of_mem _ hx)]
    rfl
theorem copyInts_is (xs : List Int) (h : xs.length ≤ 1048576) : impl_copyInts.f xs = some xs := by
  unfold impl_copyInts.f
  rw [if_pos (by simp; omega)]
  rfl
theorem counts_ev (c s mn mx : Int) (h r A B : List Int) (hh : h.length ≤ 8) (hr : r.length ≤ 8) (hA : A.length ≤ 8) (hB : B.length ≤ 8) :
    Ev (fun k => impl_counts.f k c s mn mx h r [A, B]) (((h ++ r) ++ A) ++ B) := by
  unfold impl_counts.f
  refine ev_bind0 (copyInts_is h (by omega)) (ev_pos (by omega) ?_)
  refine Ev.step (fun _ => rfl) ?_
  simp only [impl_counts.l0]
  refine ev_pos (by simp) (ev_pos (by simp) (ev_pos (by simp) ?_))
  have e0 : rd_L2 [A, B] 0 = A := rfl
  have w1 : wrap64 (0 + 1) = 1 := by unfold wrap64; omega
  have w2 : wrap64 (1 + 1) = 2 := by unfold wrap64; omega
  have e1 : rd_L2 [A, B] (wrap64 (0 + 1)) = B := by rw [w1]; rfl
  refine ev_pos (by rw [e0]; simp; omega) ?_
  refine Ev.step (fun _ => rfl) ?_
  simp only [impl_counts.l0]
  refine ev_pos (by rw [w1]; simp) (ev_pos (by rw [w1]; omega) (ev_pos (by rw [w1]; simp) ?_))
  refine ev_pos (by rw [e0, e1]; simp; omega) ?_
  refine Ev.step (fun _ => rfl) ?_
  simp only [impl_counts.l0]
  exact ev_neg (by rw [w1, w2]; simp) (ev_some (by rw [e0, e1]))
theorem impl_sketchOk_l1 (c s mn mx : Int) (h r : List Int) (R : List (List Int)) (v : Bool) (t : Int) (hr : r.length ≤ 8) (d : Nat) : ∀ i : Nat, i + d = r.length →
    ((∀ x ∈ r.drop i, x ≤ 17) → v = if c = 0 then (t == 0) else decide (mn ≤ mx ∧ mx ≤ 1000000)) → (¬ (∀ x ∈ r.drop i, x ≤ 17) → v = false) →
    Ev (fun k => impl_SketchOk.l1 k t r (r.length : Int) (i : Int) c s mn mx h r R) v := by
  induction d with
  | zero =>
    intro i hi h1 _
    refine Ev.step (fun _ => rfl) ?_
    simp only [impl_SketchOk.l1]
    refine ev_neg (by omega) ?_
    rw [h1 (fun x hx => by rw [List.drop_of_length_le (by omega)] at hx; cases hx)]
    by_cases hc : c = 0
    · exact ev_pos hc (ev_some (by rw [if_pos hc]))
    · refine ev_neg hc (ev_if (fun g => ev_some ?_) (fun g => ev_some (by rw [if_neg hc]; exact (decide_eq_false fun q => g q.1).symm)))
      rw [if_neg hc]
      exact decide_eq_decide.mpr ⟨fun x => ⟨g, x⟩, fun x => x.2⟩
  | succ d ih =>
    intro i hi h1 h2
    have hg : i < r.length := by omega
    rw [List.drop_eq_getElem_cons hg] at h1 h2
    refine Ev.step (fun _ => rfl) ?_
    simp only [impl_SketchOk.l1]
    rw [wsucc (by omega), rd_get hg]
    refine ev_pos (by omega) (ev_pos (by omega) (ev_pos (by omega) ?_))
    by_cases g : r[i] > 17
    · exact ev_pos g (ev_some (h2 fun q => by have := q _ List.mem_cons_self; omega).symm)
    · refine ev_neg g (ih (i + 1) (by omega) (fun q => h1 fun x hx => ?_) (fun q => h2 fun p => q fun x hx => p x (List.mem_cons_of_mem _ hx)))
      rcases List.mem_cons.1 hx with rfl | hx
      · omega
      · exact q x hx
theorem impl_sketchOk_l0 (c s mn mx : Int) (h r : List Int) (R : List (List Int)) (v : Bool) (ys : List Int) (hy : ys.length ≤ 100) (d : Nat) : ∀ (i : Nat) (t : Int), i + d = ys.length → 0 ≤ t → t ≤ (i : Int) * 1000000000 →
    ((∀ x ∈ ys.drop i, 0 ≤ x ∧ x ≤ 1000000000) → Ev (fun k => impl_SketchOk.l1 k (t + (ys.drop i).sum) r (r.length : Int) 0 c s mn mx h r R) v) → (¬ (∀ x ∈ ys.drop i, 0 ≤ x ∧ x ≤ 1000000000) → v = false) →
    Ev (fun k => impl_SketchOk.l0 k t ys (ys.length : Int) (i : Int) c s mn mx h r R) v := by
  induction d with
  | zero =>
    intro i t hi h0 ht h1 _
    refine Ev.step (fun _ => rfl) ?_
    simp only [impl_SketchOk.l0]
    refine ev_neg (by omega) ?_
    rw [List.drop_of_length_le (by omega)] at h1
    have := h1 (fun x hx => by cases hx)
    rw [List.sum_nil, Int.add_zero] at this
    exact this
  | succ d ih =>
    intro i t hi h0 ht h1 h2
    have hg : i < ys.length := by omega
    rw [List.drop_eq_getElem_cons hg] at h1 h2
    refine Ev.step (fun _ => rfl) ?_
    simp only [impl_SketchOk.l0]
    rw [wsucc (by omega), rd_get hg]
    refine ev_pos (by omega) (ev_pos (by omega) (ev_pos (by omega) (ev_bind0 (within_is _ _ _) ?_)))
    by_cases g : 0 ≤ ys[i] ∧ ys[i] ≤ 1000000000
    · refine ev_pos (decide_eq_true g) ?_
      rw [w64 (x := t + ys[i]) (by omega) (by omega)]
      refine ih (i + 1) _ (by omega) (by omega) (by omega) (fun q => ?_) (fun q => h2 fun p => q fun x hx => p x (List.mem_cons_of_mem _ hx))
      rw [Int.add_assoc, ← List.sum_cons]
      refine h1 fun x hx => ?_
      rcases List.mem_cons.1 hx with rfl | hx
      · exact g
      · exact q x hx
    · exact ev_neg (by rw [decide_eq_false g]; exact Bool.false_ne_true) (ev_some (h2 fun q => g (q _ List.mem_cons_self)).symm)
theorem impl_sketchOk_ev (c s mn mx : Int) (h r : List Int) (R : List (List Int)) : Ev (fun k => impl_SketchOk.f k c s mn mx h r R) (skOk c s mn mx h r R) := by
  have bad : ¬ SkOk c s mn mx h r R → Ev (fun k => impl_SketchOk.j0 k true c s mn mx h r R) (skOk c s mn mx h r R) := by
    intro hb
    refine Ev.step (fun _ => rfl) ?_
    simp only [impl_SketchOk.j0]
    exact ev_pos (by trivial) (ev_some (skOk_false hb).symm)
  unfold impl_SketchOk.f
  by_cases a1 : h.length = 8
  case neg => exact ev_neg (by omega) (bad fun g => a1 g.2.2.2.2.2.2.2.1.1)
  refine ev_pos (by omega) ?_
  by_cases a2 : r.length = 8
  case neg => exact ev_neg (by omega) (bad fun g => a2 g.2.2.2.2.2.2.2.2.1.1)
  refine ev_pos (by omega) ?_
  by_cases a3 : R.length = 2
  case neg => exact ev_neg (by omega) (bad fun g => a3 g.2.2.2.2.2.1)
  refine ev_pos (by omega) (ev_pos (by omega) ?_)
  by_cases a4 : (rd_L2 R 0).length = 4
  case neg => exact ev_neg (by omega) (bad fun g => a4 g.2.2.2.2.2.2.2.2.2.1.1)
  refine ev_pos (by omega) (ev_pos (by omega) ?_)
  by_cases a5 : (rd_L2 R 1).length = 4
  case neg =>
    have e : (((rd_L2 R 1).length : Int) != 4) = true := by simp; omega
    rw [e]
    exact bad fun g => a5 g.2.2.2.2.2.2.2.2.2.2.1
  have e : (((rd_L2 R 1).length : Int) != 4) = false := by simp; omega
  rw [e]
  clear e bad
  obtain ⟨A, B, rfl⟩ : ∃ A B, R = [A, B] := by
    match R, a3 with
    | [A, B], _ => exact ⟨A, B, rfl⟩
  have eA : rd_L2 [A, B] 0 = A := rfl
  have eB : rd_L2 [A, B] 1 = B := rfl
  rw [eA] at a4
  rw [eB] at a5
  refine Ev.step (fun _ => rfl) ?_
  simp only [impl_SketchOk.j0]
  refine ev_neg (by simp) (Ev.bind (counts_ev c s mn mx h r A B (by omega) (by omega) (by omega) (by omega)) (ev_bind0 rfl (ev_pos ?_ (ev_bind0 rfl ?_))))
  · simp only [List.length_append, List.length_cons, List.length_nil]
    omega
  generalize hys : (((h ++ r) ++ A) ++ B) ++ [c, s, mn, mx] = ys
  have hyl : ys.length = 28 := by
    rw [← hys]
    simp only [List.length_append, List.length_cons, List.length_nil]
    omega
  have hmem : ∀ P : Int → Prop, (∀ x ∈ ys, P x) ↔ (∀ x ∈ h, P x) ∧ (∀ x ∈ r, P x) ∧ (∀ x ∈ A, P x) ∧ (∀ x ∈ B, P x) ∧ P c ∧ P s ∧ P mn ∧ P mx := by
    intro P
    rw [← hys]
    constructor
    · intro q
      exact ⟨fun x hx => q x (by simp [hx]), fun x hx => q x (by simp [hx]), fun x hx => q x (by simp [hx]), fun x hx => q x (by simp [hx]), q c (by simp), q s (by simp), q mn (by simp), q mx (by simp)⟩
    · rintro ⟨q1, q2, q3, q4, q5, q6, q7, q8⟩ x hx
      simp only [List.mem_append, List.mem_cons, List.not_mem_nil, or_false] at hx
      rcases hx with (((hx | hx) | hx) | hx) | rfl | rfl | rfl | rfl
      · exact q1 x hx
      · exact q2 x hx
      · exact q3 x hx
      · exact q4 x hx
      · exact q5
      · exact q6
      · exact q7
      · exact q8
  refine impl_sketchOk_l0 c s mn mx h r [A, B] _ ys (by omega) 28 0 0 (by omega) (by omega) (by omega) (fun q => ?_) (fun q => skOk_false fun g => q ?_)
  · rw [List.drop_zero] at q
    rw [List.drop_zero, Int.zero_add]
    have qq := (hmem _).1 q
    refine impl_sketchOk_l1 c s mn mx h r [A, B] _ ys.sum (by omega) 8 0 (by omega) (fun p => ?_) (fun p => skOk_false fun g => p fun x hx => ?_)
    · rw [List.drop_zero] at p
      by_cases hc : c = 0
      · rw [if_pos hc]
        by_cases hz : ys.sum = 0
        · have z := (hmem _).1 (sum_zero ys q hz)
          have e : (ys.sum == 0) = true := by simpa using hz
          rw [e]
          refine skOk_true.2 ⟨by omega, by omega, by omega, by omega, by omega, rfl, fun _ => ⟨z.2.2.2.2.2.1, z.2.2.2.2.2.2.2⟩, ⟨a1, fun x hx => ⟨qq.1 x hx, fun _ => z.1 x hx⟩⟩, ⟨a2, fun x hx => ⟨⟨(qq.2.1 x hx).1, p x hx⟩, fun _ => z.2.1 x hx⟩⟩, ⟨a4, fun x hx => ⟨qq.2.2.1 x hx, fun _ => z.2.2.1 x hx⟩⟩, ⟨a5, fun x hx => ⟨qq.2.2.2.1 x hx, fun _ => z.2.2.2.1 x hx⟩⟩⟩
        · have e : (ys.sum == 0) = false := by simpa using hz
          rw [e]
          refine skOk_false fun g => hz (zero_sum ys ((hmem _).2 ?_))
          obtain ⟨g1, g2, g3, g4, g5, g6, g7, g8, g9, g10, g11⟩ := g
          have := g7 hc
          exact ⟨fun x hx => (g8.2 x hx).2 hc, fun x hx => (g9.2 x hx).2 hc, fun x hx => (g10.2 x hx).2 hc, fun x hx => (g11.2 x hx).2 hc, hc, this.1, by omega, this.2⟩
      · rw [if_neg hc]
        by_cases hm : mn ≤ mx ∧ mx ≤ 1000000
        · rw [decide_eq_true hm]
          refine skOk_true.2 ⟨qq.2.2.2.2.1, qq.2.2.2.2.2.1, by omega, by omega, hm.1, rfl, fun z => absurd z hc, ⟨a1, fun x hx => ⟨qq.1 x hx, fun z => absurd z hc⟩⟩, ⟨a2, fun x hx => ⟨⟨(qq.2.1 x hx).1, p x hx⟩, fun z => absurd z hc⟩⟩, ⟨a4, fun x hx => ⟨qq.2.2.1 x hx, fun z => absurd z hc⟩⟩, ⟨a5, fun x hx => ⟨qq.2.2.2.1 x hx, fun z => absurd z hc⟩⟩⟩
        · rw [decide_eq_false hm]
          exact skOk_false fun g => hm ⟨g.2.2.2.2.1, g.2.2.2.1.2⟩
    · rw [List.drop_zero] at hx
      exact (g.2.2.2.2.2.2.2.2.1.2 x hx).1.2
  · rw [List.drop_zero]
    obtain ⟨g1, g2, g3, g4, g5, g6, g7, g8, g9, g10, g11⟩ := g
    exact (hmem _).2 ⟨fun x hx => (g8.2 x hx).1, fun x hx => by have := (g9.2 x hx).1; omega, fun x hx => (g10.2 x hx).1, fun x hx => (g11.2 x hx).1, g1, g2, by omega, by omega⟩
def clipV (a : Int) : Nat := if a ≤ 0 then 0 else if a ≤ 1000000 then a.toNat else 1000000
theorem clipV_le (a : Int) : clipV a ≤ 1000000 := by
  unfold clipV
  split
  · omega
  · split <;> omega
/-- How many binary digits a number has (as many rounds as there can be). -/
def bl : Nat → Nat → Nat
  | 0, _ => 0
  | d + 1, x => if x = 0 then 0 else bl d (x / 2) + 1
theorem bl_le (d x : Nat) : bl d x ≤ d := by
  induction d generalizing x with
  | zero => exact Nat.le_refl _
  | succ d ih =>
    unfold bl
    split
    · omega
    · have := ih (x / 2)
      omega
theorem bl_more (d e : Nat) : ∀ x, x < 2 ^ d → bl (d + e) x = bl d x := by
  induction d with
  | zero =>
    intro x hx
    obtain rfl : x = 0 := by omega
    cases e <;> simp [bl]
  | succ d ih =>
    intro x hx
    rw [show d + 1 + e = (d + e) + 1 by omega]
    unfold bl
    rw [Nat.pow_succ] at hx
    rw [ih (x / 2) (by omega)]
theorem bl_shift (d j : Nat) : ∀ x, 2 ^ j ≤ x → bl (d + j) x = bl d (x / 2 ^ j) + j := by
  induction j with
  | zero =>
    intro x _
    simp
  | succ j ih =>
    intro x hx
    rw [Nat.pow_succ] at hx
    have hp : 0 < 2 ^ j := Nat.two_pow_pos j
    rw [show d + (j + 1) = (d + j) + 1 by omega]
    conv => lhs; unfold bl
    rw [if_neg (by omega), ih (x / 2) (by omega), Nat.div_div_eq_div_mul, Nat.mul_comm 2, ← Nat.pow_succ, Nat.succ_eq_add_one]
    omega
theorem tab_is : ∀ t : Fin 256, bt (⟨#[0, 1, 2, 2, 3, 3, 3, 3, 4, 4, 4, 4, 4, 4, 4, 4, 5, 5, 5, 5, 5, 5, 5, 5, 5, 5, 5, 5, 5, 5, 5, 5, 6, 6, 6, 6, 6, 6, 6, 6, 6, 6, 6, 6, 6, 6, 6, 6, 6, 6, 6, 6, 6, 6, 6, 6, 6, 6, 6, 6, 6, 6, 6, 6, 7, 7, 7, 7, 7, 7, 7, 7, 7, 7, 7, 7, 7, 7, 7, 7, 7, 7, 7, 7, 7, 7, 7, 7, 7, 7, 7, 7, 7, 7, 7, 7, 7, 7, 7, 7, 7, 7, 7, 7, 7, 7, 7, 7, 7, 7, 7, 7, 7, 7, 7, 7, 7, 7, 7, 7, 7, 7, 7, 7, 7, 7, 7, 7, 8, 8, 8, 8, 8, 8, 8, 8, 8, 8, 8, 8, 8, 8, 8, 8, 8, 8, 8, 8, 8, 8, 8, 8, 8, 8, 8, 8, 8, 8, 8, 8, 8, 8, 8, 8, 8, 8, 8, 8, 8, 8, 8, 8, 8, 8, 8, 8, 8, 8, 8, 8, 8, 8, 8, 8, 8, 8, 8, 8, 8, 8, 8, 8, 8, 8, 8, 8, 8, 8, 8, 8, 8, 8, 8, 8, 8, 8, 8, 8, 8, 8, 8, 8, 8, 8, 8, 8, 8, 8, 8, 8, 8, 8, 8, 8, 8, 8, 8, 8, 8, 8, 8, 8, 8, 8, 8, 8, 8, 8, 8, 8, 8, 8, 8, 8, 8, 8, 8, 8, 8, 8, 8, 8, 8, 8, 8, 8]⟩ : ByteArray) ((t.val : Nat) : Int) = ((bl 8 t.val : Nat) : Int) := by decide +kernel
theorem tab_at (t : Nat) (h : t < 256) : bt (⟨#[0, 1, 2, 2, 3, 3, 3, 3, 4, 4, 4, 4, 4, 4, 4, 4, 5, 5, 5, 5, 5, 5, 5, 5, 5, 5, 5, 5, 5, 5, 5, 5, 6, 6, 6, 6, 6, 6, 6, 6, 6, 6, 6, 6, 6, 6, 6, 6, 6, 6, 6, 6, 6, 6, 6, 6, 6, 6, 6, 6, 6, 6, 6, 6, 7, 7, 7, 7, 7, 7, 7, 7, 7, 7, 7, 7, 7, 7, 7, 7, 7, 7, 7, 7, 7, 7, 7, 7, 7, 7, 7, 7, 7, 7, 7, 7, 7, 7, 7, 7, 7, 7, 7, 7, 7, 7, 7, 7, 7, 7, 7, 7, 7, 7, 7, 7, 7, 7, 7, 7, 7, 7, 7, 7, 7, 7, 7, 7, 8, 8, 8, 8, 8, 8, 8, 8, 8, 8, 8, 8, 8, 8, 8, 8, 8, 8, 8, 8, 8, 8, 8, 8, 8, 8, 8, 8, 8, 8, 8, 8, 8, 8, 8, 8, 8, 8, 8, 8, 8, 8, 8, 8, 8, 8, 8, 8, 8, 8, 8, 8, 8, 8, 8, 8, 8, 8, 8, 8, 8, 8, 8, 8, 8, 8, 8, 8, 8, 8, 8, 8, 8, 8, 8, 8, 8, 8, 8, 8, 8, 8, 8, 8, 8, 8, 8, 8, 8, 8, 8, 8, 8, 8, 8, 8, 8, 8, 8, 8, 8, 8, 8, 8, 8, 8, 8, 8, 8, 8, 8, 8, 8, 8, 8, 8, 8, 8, 8, 8, 8, 8, 8, 8, 8, 8, 8, 8]⟩ : ByteArray) (t : Int) = ((bl 8 t : Nat) : Int) := tab_is ⟨t, h⟩
set_option maxRecDepth 100000 in
theorem len_ev (x : Nat) (hx : x ≤ 1000000) : Ev (fun k => bits_Len.f k (x : Int)) ((bl 20 x : Nat) : Int) := by
  unfold bits_Len.f
  refine Ev.bind (a := ((bl 20 x : Nat) : Int)) ?_ (ev_some rfl)
  unfold bits_Len64.f
  refine ev_neg (by omega) (Ev.step (fun _ => rfl) ?_)
  unfold bits_Len64.j0
  by_cases h1 : 65536 ≤ x
  · refine ev_pos (by omega) (ev_neg (by omega) ?_)
    have e : ((x : Int) / 65536) % 256 = ((x / 65536 : Nat) : Int) := by omega
    rw [e, tab_at _ (by omega)]
    refine ev_pos (by omega) (ev_pos (by omega) (ev_some ?_))
    have hb := bl_le 8 (x / 65536)
    have h4 : bl 8 (x / 65536) = bl 4 (x / 65536) := bl_more 4 4 _ (by omega)
    have h20 : bl 20 x = bl 4 (x / 65536) + 16 := bl_shift 4 16 x (by omega)
    rw [h20, ← h4]
    generalize bl 8 (x / 65536) = q at hb
    unfold wrap64
    omega
  · refine ev_neg (by omega) ?_
    by_cases h2 : 256 ≤ x
    · refine ev_pos (by omega) ?_
      have e : ((x : Int) / 256) % 256 = ((x / 256 : Nat) : Int) := by omega
      rw [e, tab_at _ (by omega)]
      refine ev_pos (by omega) (ev_pos (by omega) (ev_some ?_))
      have hb := bl_le 8 (x / 256)
      have h4 : bl 12 (x / 256) = bl 8 (x / 256) := bl_more 8 4 _ (by omega)
      have h20 : bl 20 x = bl 12 (x / 256) + 8 := bl_shift 12 8 x (by omega)
      rw [h20, h4]
      generalize bl 8 (x / 256) = q at hb
      unfold wrap64
      omega
    · refine ev_neg (by omega) ?_
      have e : (x : Int) % 256 = ((x : Nat) : Int) := by omega
      rw [e, tab_at _ (by omega)]
      refine ev_pos (by omega) (ev_pos (by omega) (ev_some ?_))
      have hb := bl_le 8 x
      have h20 : bl 20 x = bl 8 x := bl_more 8 12 _ (by omega)
      rw [h20]
      generalize bl 8 x = q at hb
      unfold wrap64
      omega
def bucketOf (a : Int) : Int := (((bl 20 (clipV a) + 2) / 3 : Nat) : Int)
theorem third (q : Nat) (h : q ≤ 20) : wrap64 (Int.tdiv (wrap64 ((q : Int) + 2)) 3) = (((q + 2) / 3 : Nat) : Int) := by
  rw [w64 (x := (q : Int) + 2) (by omega) (by omega), Int.tdiv_eq_ediv_of_nonneg (by omega), w64 (by omega) (by omega)]
  omega
theorem impl_bucketOf_ev (a : Int) : Ev (fun k => impl_BucketOf.f k a) (bucketOf a) := by
  unfold impl_BucketOf.f bucketOf clipV
  by_cases h : a ≤ 0
  · rw [if_pos h]
    exact ev_pos h (ev_some rfl)
  · rw [if_neg h]
    refine ev_neg h ?_
    have e : IntKind.u64.wrap (mn a 1000000) = (((if a ≤ 1000000 then a.toNat else 1000000 : Nat)) : Int) := by
      unfold mn
      simp only [IntKind.wrap, IntKind.bits, IntKind.signed, Bool.false_and, Bool.false_eq_true, if_false]
      split <;> split <;> omega
    rw [e]
    have hc : (if a ≤ 1000000 then a.toNat else 1000000 : Nat) ≤ 1000000 := by split <;> omega
    exact Ev.bind (len_ev _ hc) (ev_some (third _ (bl_le 20 _)))
theorem spec_clip_is (a : Int) : spec_l2Clip.f a 1000000 = some ((clipV a : Nat) : Int) := by
  unfold spec_l2Clip.f spec_l1Min.f spec_l1Max.f clipV
  by_cases h : a < 1000000
  · rw [if_pos h]
    simp only [Option.bind_some]
    by_cases h2 : a ≤ 0
    · rw [if_pos h2]
      by_cases h3 : 0 > a
      · rw [if_pos h3]
        rfl
      · rw [if_neg h3]
        simp only [Option.bind_some, Option.some.injEq]
        omega
    · rw [if_neg (by omega), if_neg h2, if_pos (by omega)]
      simp only [Option.bind_some, Option.some.injEq]
      omega
  · rw [if_neg h]
    simp only [Option.bind_some]
    rw [if_neg (by omega), if_neg (by omega : ¬ a ≤ 0)]
    by_cases h2 : a ≤ 1000000
    · rw [if_pos h2]
      simp only [Option.bind_some, Option.some.injEq]
      omega
    · rw [if_neg h2]
      rfl
theorem spec_bucket_at (d : Nat) : ∀ (x n : Nat), x < 2 ^ d → n + d ≤ 20 → Ev (fun k => spec_BucketOf.l0 k (x : Int) (n : Int)) (((n + bl d x + 2) / 3 : Nat) : Int) := by
  induction d with
  | zero =>
    intro x n hx hn
    obtain rfl : x = 0 := by omega
    refine Ev.step (fun _ => rfl) ?_
    simp only [spec_BucketOf.l0]
    exact ev_neg (by omega) (ev_some (third n (by omega)))
  | succ d ih =>
    intro x n hx hn
    refine Ev.step (fun _ => rfl) ?_
    simp only [spec_BucketOf.l0]
    unfold bl
    by_cases h0 : x = 0
    · rw [if_pos h0]
      exact ev_neg (by omega) (ev_some (third n (by omega)))
    · rw [if_neg h0]
      refine ev_pos (by omega) ?_
      have e : wrap64 (Int.tdiv (x : Int) 2) = ((x / 2 : Nat) : Int) := by
        have : x < 2 ^ 20 := Nat.lt_of_lt_of_le hx (Nat.pow_le_pow_right (by omega) (by omega))
        rw [Int.tdiv_eq_ediv_of_nonneg (by omega), w64 (by omega) (by omega)]
        omega
      rw [e, wsucc (by omega)]
      rw [Nat.pow_succ] at hx
      have := ih (x / 2) (n + 1) (by omega) (by omega)
      rw [show n + (bl d (x / 2) + 1) + 2 = n + 1 + bl d (x / 2) + 2 by omega]
      exact this
theorem spec_bucketOf_ev (a : Int) : Ev (fun k => spec_BucketOf.f k a) (bucketOf a) := by
  unfold spec_BucketOf.f bucketOf
  refine ev_bind0 (spec_clip_is a) ?_
  have := clipV_le a
  have h := spec_bucket_at 20 (clipV a) 0 (by omega) (by omega)
  rw [Nat.zero_add] at h
  exact h
def mixN (a : Int) : Nat := (clipV a * 40503 + 12345) % 65536 ^^^ (clipV a * 40503 + 12345) % 65536 / 256
theorem mixN_lt (a : Int) : mixN a < 65536 := by
  unfold mixN
  have h1 : (clipV a * 40503 + 12345) % 65536 < 2 ^ 16 := by omega
  have := Nat.xor_lt_two_pow (n := 16) h1 (show (clipV a * 40503 + 12345) % 65536 / 256 < 2 ^ 16 by omega)
  omega
theorem mix_val (a : Int) : Go.bits .xor .i64 (Int.tmod (wrap64 (wrap64 (((clipV a : Nat) : Int) * 40503) + 12345)) 65536) (wrap64 (Int.tdiv (Int.tmod (wrap64 (wrap64 (((clipV a : Nat) : Int) * 40503) + 12345)) 65536) 256)) = ((mixN a : Nat) : Int) := by
  have hc := clipV_le a
  have e : Int.tmod (wrap64 (wrap64 (((clipV a : Nat) : Int) * 40503) + 12345)) 65536 = (((clipV a * 40503 + 12345) % 65536 : Nat) : Int) := by
    rw [w64 (x := ((clipV a : Nat) : Int) * 40503) (by omega) (by omega), w64 (by omega) (by omega), Int.tmod_eq_emod_of_nonneg (by omega)]
    omega
  rw [e]
  clear e
  have e2 : wrap64 (Int.tdiv (((clipV a * 40503 + 12345) % 65536 : Nat) : Int) 256) = (((clipV a * 40503 + 12345) % 65536 / 256 : Nat) : Int) := by
    rw [Int.tdiv_eq_ediv_of_nonneg (by omega), w64 (by omega) (by omega)]
    omega
  rw [e2]
  clear e2
  exact xor64 _ _ (by omega) (by omega)
theorem impl_clip_is (a : Int) : impl_limited.f a 0 1000000 = some ((clipV a : Nat) : Int) := by
  unfold impl_limited.f mn mx clipV
  congr 1
  repeat' split
  all_goals omega
theorem impl_mix_is (a : Int) : impl_Mix.f a = some ((mixN a : Nat) : Int) := by
  unfold impl_Mix.f
  rw [impl_clip_is, Option.bind_some, mix_val]
theorem spec_mix_is (a : Int) : spec_Mix.f a = some ((mixN a : Nat) : Int) := by
  unfold spec_Mix.f
  rw [spec_clip_is, Option.bind_some, mix_val]
/-- How many zeros a number of Mix ends in, and one more. -/
def rankV (n : Int) : Int := if mixN n = 0 then 17 else ((Lib.ctz 64 (mixN n) : Nat) : Int) + 1
theorem spec_rank_at (m : Nat) : ∀ (j : Nat) (r : Int), 2 ^ j * (2 * m + 1) < 65536 → 0 ≤ r → r + j ≤ 1000 → Ev (fun k => spec_RankOf.l0 k ((2 ^ j * (2 * m + 1) : Nat) : Int) r) (r + (j : Int)) := by
  intro j
  induction j with
  | zero =>
    intro r hx h0 h1
    refine Ev.step (fun _ => rfl) ?_
    simp only [spec_RankOf.l0]
    refine ev_neg ?_ (ev_some (by omega))
    rw [Int.tmod_eq_emod_of_nonneg (by omega)]
    omega
  | succ j ih =>
    intro r hx h0 h1
    have e : 2 ^ (j + 1) * (2 * m + 1) = 2 * (2 ^ j * (2 * m + 1)) := by rw [Nat.pow_succ]; simp [Nat.mul_comm, Nat.mul_left_comm]
    rw [e] at hx ⊢
    have ih' := ih (r + 1) (by omega) (by omega) (by omega)
    generalize 2 ^ j * (2 * m + 1) = y at hx ih'
    refine Ev.step (fun _ => rfl) ?_
    simp only [spec_RankOf.l0]
    refine ev_pos ?_ ?_
    · rw [Int.tmod_eq_emod_of_nonneg (by omega)]
      omega
    · rw [Int.tdiv_eq_ediv_of_nonneg (by omega), w64 (x := ((2 * y : Nat) : Int) / 2) (by omega) (by omega), w64 (x := r + 1) (by omega) (by omega), show ((2 * y : Nat) : Int) / 2 = (y : Int) by omega, show r + ((j + 1 : Nat) : Int) = r + 1 + (j : Int) by omega]
      exact ih'
theorem rank_lt (n : Int) (h : mixN n ≠ 0) : ∃ m, mixN n = 2 ^ Lib.ctz 64 (mixN n) * (2 * m + 1) ∧ Lib.ctz 64 (mixN n) < 64 := by
  have h2 := mixN_lt n
  have := Lib.ctzFrom_spec 64 (mixN n) (by omega) (by omega)
  unfold Lib.ctz
  rw [if_neg h]
  exact this
theorem spec_rank_ev (n : Int) : Ev (fun k => spec_RankOf.f k n) (rankV n) := by
  unfold spec_RankOf.f rankV
  refine ev_bind0 (spec_mix_is n) ?_
  by_cases h : mixN n = 0
  · rw [if_pos h]
    exact ev_pos (by omega) (ev_some rfl)
  · rw [if_neg h]
    refine ev_neg (by omega) ?_
    obtain ⟨m, hm, hk⟩ := rank_lt n h
    have hl := mixN_lt n
    have e := spec_rank_at m (Lib.ctz 64 (mixN n)) 1 (by rw [← hm]; exact hl) (by omega) (by omega)
    rw [← hm] at e
    rw [Int.add_comm]
    exact e
/-! ### what Insert comes to, in both texts -/
def bkN (v : Int) : Nat := (bl 20 (clipV v) + 2) / 3
theorem bucketOf_is (v : Int) : bucketOf v = ((bkN v : Nat) : Int) := rfl
theorem bkN_lt (v : Int) : bkN v < 8 := by
  have := bl_le 20 (clipV v)
  unfold bkN
  omega
theorem rankV_range (v : Int) : 1 ≤ rankV v ∧ rankV v ≤ 17 := by
  unfold rankV
  by_cases h : mixN v = 0
  · rw [if_pos h]; omega
  · rw [if_neg h]
    obtain ⟨m, hm, hk⟩ := rank_lt v h
    have hl := mixN_lt v
    have hp : Lib.ctz 64 (mixN v) < 16 := by
      rcases Nat.lt_or_ge (Lib.ctz 64 (mixN v)) 16 with h' | h'
      · exact h'
      · have h2 : 2 ^ 16 ≤ 2 ^ Lib.ctz 64 (mixN v) := Nat.pow_le_pow_right (by omega) h'
        have h3 : 2 ^ Lib.ctz 64 (mixN v) * 1 ≤ 2 ^ Lib.ctz 64 (mixN v) * (2 * m + 1) := Nat.mul_le_mul_left _ (by omega)
        omega
    omega
theorem impl_rank_is (v : Int) : impl_RankOf.f v = some (rankV v) := by
  unfold impl_RankOf.f rankV
  rw [impl_mix_is, Option.bind_some]
  have hl := mixN_lt v
  by_cases h : mixN v = 0
  · rw [if_pos (by omega), if_pos h]
  · rw [if_neg (by omega), if_pos (by omega), if_neg h, Int.toNat_natCast]
theorem impl_add_is {a b : Int} (ha : 0 ≤ a ∧ a ≤ 1000000000) (hb : 0 ≤ b ∧ b ≤ 1000000000) : impl_Add.f a b = some (sadd a b) := by
  unfold impl_Add.f impl_limited.f mn mx
  have e : ∀ x : Int, 0 ≤ x ∧ x ≤ 1000000000 → (if 1000000000 < (if x < 0 then 0 else x) then 1000000000 else (if x < 0 then 0 else x)) = x := by
    intro x hx
    repeat' split
    all_goals omega
  rw [e a ha, e b hb, Option.bind_some, Option.bind_some, w64 (x := a + b) (by omega) (by omega)]
  unfold sadd
  congr 1
  repeat' split
  all_goals omega
theorem spec_add_is {a b : Int} (ha : 0 ≤ a ∧ a ≤ 1000000000) (hb : 0 ≤ b ∧ b ≤ 1000000000) : spec_Add.f a b = some (sadd a b) := by
  have c : ∀ x : Int, 0 ≤ x ∧ x ≤ 1000000000 → spec_l2Clip.f x 1000000000 = some x := by
    intro x hx
    unfold spec_l2Clip.f spec_l1Min.f spec_l1Max.f
    by_cases h : x < 1000000000
    · simp only [if_pos h, Option.bind_some]
      split
      · congr 1; omega
      · rfl
    · simp only [if_neg h, Option.bind_some]
      rw [if_neg (by omega), show x = 1000000000 by omega]
      rfl
  unfold spec_Add.f spec_l1Min.f
  rw [c a ha, c b hb, Option.bind_some, Option.bind_some, w64 (x := a + b) (by omega) (by omega)]
  unfold sadd
  by_cases h : a + b < 1000000000
  · rw [if_pos h, if_neg (by omega)]
    rfl
  · rw [if_neg h]
    split
    · rfl
    · simp only [Option.bind_some]
      congr 1
      omega
theorem impl_copy_at (c s lo hi : Int) (h r : List Int) (R : List (List Int)) (hR : R.length ≤ 1048576) (hx : ∀ x ∈ R, x.length ≤ 1048576) (d : Nat) : ∀ i : Nat, i + d = R.length →
    Ev (fun k => impl_copySketch.l0 k R (R.length : Int) (i : Int) c s lo hi h r (R.take i)) (c, s, lo, hi, h, r, R) := by
  induction d with
  | zero =>
    intro i hi'
    refine Ev.step (fun _ => rfl) ?_
    simp only [impl_copySketch.l0]
    exact ev_neg (by omega) (ev_some (by rw [show i = R.length by omega, List.take_length]))
  | succ d ih =>
    intro i hi'
    refine Ev.step (fun _ => rfl) ?_
    simp only [impl_copySketch.l0]
    have hiR : i < R.length := by omega
    have hl := hx _ (List.getElem_mem hiR)
    rw [wsucc (by omega), rdR_get hiR]
    refine ev_pos (by omega) (ev_pos (by omega) (ev_pos (by omega) (ev_bind0 (a := R[i]) (by unfold impl_copyInts.f; rw [if_pos (by simp; omega), List.nil_append]) (ev_pos (by simp; omega) ?_))))
    rw [← List.take_succ_eq_append_getElem hiR]
    exact ih (i + 1) (by omega)
theorem impl_copy_ev (c s lo hi : Int) (h r : List Int) (R : List (List Int)) (hh : h.length ≤ 1048576) (hr : r.length ≤ 1048576) (hR : R.length ≤ 1048576) (hx : ∀ x ∈ R, x.length ≤ 1048576) :
    Ev (fun k => impl_copySketch.f k c s lo hi h r R) (c, s, lo, hi, h, r, R) := by
  unfold impl_copySketch.f
  refine ev_bind0 (a := h) (by unfold impl_copyInts.f; rw [if_pos (by simp; omega), List.nil_append]) (ev_bind0 (a := r) (by unfold impl_copyInts.f; rw [if_pos (by simp; omega), List.nil_append]) ?_)
  have := impl_copy_at c s lo hi h r R hR hx R.length 0 (by omega)
  simpa using this
theorem spec_copy_at (c s lo hi : Int) (h r : List Int) (R : List (List Int)) (hR : R.length ≤ 1048576) (hx : ∀ x ∈ R, x.length ≤ 1048576) (d : Nat) : ∀ i : Nat, i + d = R.length →
    Ev (fun k => spec_l3Copy.l0 k (i : Int) c s lo hi h r R c s lo hi h r (R.take i)) (c, s, lo, hi, h, r, R) := by
  induction d with
  | zero =>
    intro i hi'
    refine Ev.step (fun _ => rfl) ?_
    simp only [spec_l3Copy.l0]
    exact ev_neg (by omega) (ev_some (by rw [show i = R.length by omega, List.take_length]))
  | succ d ih =>
    intro i hi'
    refine Ev.step (fun _ => rfl) ?_
    simp only [spec_l3Copy.l0]
    have hiR : i < R.length := by omega
    have hl := hx _ (List.getElem_mem hiR)
    rw [wsucc (by omega), rdR_get hiR]
    simp only [Option.bind_some]
    refine ev_pos (by omega) (ev_pos (by omega) (ev_pos (by simp; omega) (ev_pos (by simp; omega) ?_)))
    rw [List.nil_append, ← List.take_succ_eq_append_getElem hiR]
    exact ih (i + 1) (by omega)
theorem spec_copy_ev (c s lo hi : Int) (h r : List Int) (R : List (List Int)) (hh : h.length ≤ 1048576) (hr : r.length ≤ 1048576) (hR : R.length ≤ 1048576) (hx : ∀ x ∈ R, x.length ≤ 1048576) :
    Ev (fun k => spec_l3Copy.f k c s lo hi h r R) (c, s, lo, hi, h, r, R) := by
  unfold spec_l3Copy.f
  simp only [Option.bind_some]
  refine ev_pos (by simp; omega) (ev_pos (by simp; omega) ?_)
  have := spec_copy_at c s lo hi h r R hR hx R.length 0 (by omega)
  simpa using this
theorem two_rows {R : List (List Int)} (h : R.length = 2) : ∃ p q, R = [p, q] := by
  match R, h with
  | [p, q], _ => exact ⟨p, q, rfl⟩
theorem upd_rd (l : List Int) (i : Nat) (f : Int → Int) : l.set i (f (rd l (i : Int))) = upd l i f := by rw [rd_nat]; rfl
theorem tm8 (v : Int) : Int.tmod ((mixN v : Nat) : Int) 8 = ((mixN v % 8 : Nat) : Int) := by rw [Int.tmod_eq_emod_of_nonneg (by omega)]; omega
theorem lok_at {xs : List Int} {n : Nat} {most : Int} {z : Prop} (h : LOk xs n most z) {i : Nat} (hi : i < n) : 0 ≤ rd xs (i : Int) ∧ rd xs (i : Int) ≤ most := by
  rw [rd_get (by rw [h.1]; exact hi)]
  exact (h.2 _ (List.getElem_mem _)).1
theorem skOk_su {c s lo hi : Int} {h r p q : List Int} (ok : SkOk c s lo hi h r [p, q]) : Su.Ok ⟨c, s, lo, hi, h, r, p, q⟩ := by
  obtain ⟨h1, h2, h3, h4, h5, h6, h7, h8, h9, h10, h11⟩ := ok
  exact ⟨h1, h2, h3, h4, h5, h7, h8, h9, h10, h11⟩
theorem su_skOk {u : Su} (ok : u.Ok) : SkOk u.c u.s u.mn u.mx u.h u.r [u.p, u.q] := ⟨ok.hc, ok.hs, ok.hmn, ok.hmx, ok.hle, rfl, ok.hz, ok.hh, ok.hr, ok.hp, ok.hq⟩
theorem lok_getD {xs : List Int} {n : Nat} {most : Int} {z : Prop} (h : LOk xs n most z) {i : Nat} (hi : i < n) : 0 ≤ xs.getD i 0 ∧ xs.getD i 0 ≤ most := by
  have h1 : i < xs.length := by rw [h.1]; exact hi
  rw [List.getD_eq_getElem?_getD, List.getElem?_eq_getElem h1]
  exact (h.2 _ (List.getElem_mem h1)).1
/-- A number is put into a summary that is right. -/
def suPut (u : Su) (v : Int) : Su := Su.ins bkN mixN rankV u v
def suOut (u : Su) (b : Bool) : Int × Int × Int × Int × List Int × List Int × List (List Int) × Bool := (u.c, u.s, u.mn, u.mx, u.h, u.r, [u.p, u.q], b)
/-- What Insert comes to. -/
noncomputable def insV (c s lo hi : Int) (h r : List Int) (R : List (List Int)) (v : Int) : Int × Int × Int × Int × List Int × List Int × List (List Int) × Bool :=
  if skOk c s lo hi h r R = true ∧ 0 ≤ v ∧ v ≤ 1000000 then suOut (suPut ⟨c, s, lo, hi, h, r, rd_L2 R 0, rd_L2 R 1⟩ v) true else (c, s, lo, hi, h, r, R, false)
theorem impl_g_ev (u : Su) (ok : u.Ok) (v : Int) (hv : 0 ≤ v ∧ v ≤ 1000000) : Ev (fun k => impl_Insert.g k u.c u.s u.mn u.mx u.h u.r [u.p, u.q] v) (suOut (suPut u v) true) := by
  have hb := bkN_lt v
  have hm := mixN_lt v
  have q0 : ∀ p q : List Int, [p, q].getD 0 [] = p := fun _ _ => rfl
  have q1 : ∀ p q : List Int, [p, q].getD 1 [] = q := fun _ _ => rfl
  unfold impl_Insert.g
  refine ev_bind0 (impl_add_is ok.hc (by omega)) (ev_bind0 (impl_add_is ok.hs (by omega)) ((Ev.bind (impl_bucketOf_ev v) (ev_bind0 (impl_mix_is v) ?_))))
  rw [bucketOf_is]
  simp only [Int.toNat_natCast, q0, q1]
  refine ev_bind0 (impl_add_is (lok_getD ok.hh hb) (by omega)) (ev_bind0 (impl_rank_is v) (ev_bind0 (impl_add_is (lok_getD ok.hp (by omega)) (by omega)) (ev_bind0 (impl_add_is (lok_getD ok.hq (by omega)) (by omega)) (ev_pos ⟨ok.hh.1, ok.hr.1, rfl, ok.hp.1, ok.hq.1, by omega, by omega, by omega, by omega⟩ (ev_some ?_)))))
  have hz := ok.hz
  have hle := ok.hle
  have hmn := ok.hmn
  simp only [suPut, suOut, Su.ins, upd, Nat.zero_add, Nat.add_comm 1, Prod.mk.injEq, true_and, and_true]
  refine ⟨?_, ?_, ?_⟩
  · by_cases e : u.c = 0
    · rw [if_pos e, if_pos e]
    · rw [if_neg e, if_neg e]
      simp only [mn, lo2]
      repeat' split
      all_goals omega
  · by_cases e : u.c = 0
    · have := hz e
      rw [if_pos e]
      simp only [hi2]
      split <;> omega
    · rw [if_neg e]
      simp only [mx, hi2]
      repeat' split
      all_goals omega
  · congr 1
    simp only [mx, hi2]
    repeat' split
    all_goals omega
theorem impl_insert_ev (c s lo hi : Int) (h r : List Int) (R : List (List Int)) (v : Int) (hh : h.length ≤ 1048576) (hr : r.length ≤ 1048576) (hR : R.length ≤ 1048576) (hx : ∀ x ∈ R, x.length ≤ 1048576) :
    Ev (fun k => impl_Insert.f k c s lo hi h r R v) (insV c s lo hi h r R v) := by
  unfold impl_Insert.f insV
  refine Ev.bind (impl_copy_ev c s lo hi h r R hh hr hR hx) (ev_pos ⟨rfl, rfl, rfl, rfl, rfl, rfl, rfl⟩ (Ev.bind (impl_sketchOk_ev c s lo hi h r R) ?_))
  cases ok : skOk c s lo hi h r R with
  | false =>
    rw [if_neg (by simp)]
    exact ev_neg (by simp) (ev_some rfl)
  | true =>
    have hok := skOk_true.1 ok
    obtain ⟨p, q, rfl⟩ := two_rows hok.2.2.2.2.2.1
    refine ev_pos (by trivial) (ev_bind0 (within_is v 0 1000000) ?_)
    by_cases hv : 0 ≤ v ∧ v ≤ 1000000
    · rw [if_pos ⟨by trivial, hv⟩]
      exact ev_pos (by simp [hv]) (impl_g_ev ⟨c, s, lo, hi, h, r, p, q⟩ (skOk_su hok) v hv)
    · rw [if_neg (fun e => hv e.2)]
      exact ev_neg (by simp; omega) (ev_some rfl)
theorem spec_g_ev (u : Su) (ok : u.Ok) (v : Int) (hv : 0 ≤ v ∧ v ≤ 1000000) : Ev (fun k => spec_Insert.g k u.c u.s u.mn u.mx u.h u.r [u.p, u.q] v) (suOut (suPut u v) true) := by
  have hb := bkN_lt v
  have hm := mixN_lt v
  have q0 : ∀ p q : List Int, [p, q].getD 0 [] = p := fun _ _ => rfl
  have q1 : ∀ p q : List Int, [p, q].getD 1 [] = q := fun _ _ => rfl
  have emx : ∀ x y : Int, spec_l1Max.f x y = some (hi2 x y) := by
    intro x y
    unfold spec_l1Max.f hi2
    split <;> rfl
  have emn : ∀ x y : Int, spec_l1Min.f x y = some (lo2 x y) := by
    intro x y
    unfold spec_l1Min.f lo2
    split <;> rfl
  unfold spec_Insert.g
  refine ev_bind0 (spec_add_is ok.hc (by omega)) (ev_bind0 (spec_add_is ok.hs (by omega)) ((ev_bind0 (emn _ _) (ev_bind0 (emx _ _) (Ev.bind (spec_bucketOf_ev v) (ev_bind0 (spec_mix_is v) ?_))))))
  rw [bucketOf_is]
  simp only [Int.toNat_natCast, q0, q1]
  refine ev_bind0 (spec_add_is (lok_getD ok.hh hb) (by omega)) (Ev.bind (spec_rank_ev v) (ev_bind0 (emx _ _) (ev_bind0 (spec_add_is (lok_getD ok.hp (by omega)) (by omega)) (ev_bind0 (spec_add_is (lok_getD ok.hq (by omega)) (by omega)) (ev_pos ⟨ok.hh.1, ok.hr.1, rfl, ok.hp.1, ok.hq.1, by omega, by omega, by omega, by omega⟩ (ev_some ?_))))))
  have hz := ok.hz
  have hle := ok.hle
  have hmn := ok.hmn
  simp only [suPut, suOut, Su.ins, upd, Nat.zero_add, Nat.add_comm 1, Prod.mk.injEq, true_and, and_true]
theorem spec_insert_ev (c s lo hi : Int) (h r : List Int) (R : List (List Int)) (v : Int) (hh : h.length ≤ 1048576) (hr : r.length ≤ 1048576) (hR : R.length ≤ 1048576) (hx : ∀ x ∈ R, x.length ≤ 1048576) :
    Ev (fun k => spec_Insert.f k c s lo hi h r R v) (insV c s lo hi h r R v) := by
  unfold spec_Insert.f insV
  refine Ev.bind (spec_copy_ev c s lo hi h r R hh hr hR hx) (ev_pos ⟨rfl, rfl, rfl, rfl, rfl, rfl, rfl⟩ (Ev.bind (spec_sketchOk_ev c s lo hi h r R) ?_))
  cases ok : skOk c s lo hi h r R with
  | false =>
    rw [if_neg (by simp)]
    exact ev_neg (by simp) (ev_some rfl)
  | true =>
    have hok := skOk_true.1 ok
    obtain ⟨p, q, rfl⟩ := two_rows hok.2.2.2.2.2.1
    refine ev_pos (by trivial) (ev_bind0 (l1In_is v 0 1000000) ?_)
    by_cases hv : 0 ≤ v ∧ v ≤ 1000000
    · rw [if_pos ⟨by trivial, hv⟩]
      exact ev_pos (by simp [hv]) (spec_g_ev ⟨c, s, lo, hi, h, r, p, q⟩ (skOk_su hok) v hv)
    · rw [if_neg (fun e => hv e.2)]
      exact ev_neg (by simp; omega) (ev_some rfl)
/-! ### what Sketched comes to, in both texts -/
def suT (u : Su) : Int × Int × Int × Int × List Int × List Int × List (List Int) := (u.c, u.s, u.mn, u.mx, u.h, u.r, [u.p, u.q])
def suInsO (u : Su) (v : Int) : Su := Su.insO bkN mixN rankV u v
def suOf (l : List Int) : Su := Su.of bkN mixN rankV l
theorem rk17 : ∀ v, 0 ≤ rankV v ∧ rankV v ≤ 17 := fun v => by have := rankV_range v; omega
theorem suInsO_ok {u : Su} (h : u.Ok) (v : Int) : (suInsO u v).Ok := Su.insO_ok bkN mixN rankV rk17 h v
theorem suOf_ok (l : List Int) : (suOf l).Ok := Su.of_ok bkN mixN rankV rk17 l
theorem ins_at {u : Su} (h : u.Ok) (v : Int) : ∃ t, insV u.c u.s u.mn u.mx u.h u.r [u.p, u.q] v = suOut (suInsO u v) t := by
  unfold insV suInsO Su.insO
  rw [skOk_true.2 (su_skOk h)]
  by_cases hv : 0 ≤ v ∧ v ≤ 1000000
  · rw [if_pos ⟨rfl, hv⟩, if_pos hv]
    exact ⟨true, rfl⟩
  · rw [if_neg (fun e => hv e.2), if_neg hv]
    exact ⟨false, rfl⟩
theorem su_lens {u : Su} (h : u.Ok) : u.h.length ≤ 1048576 ∧ u.r.length ≤ 1048576 ∧ [u.p, u.q].length ≤ 1048576 ∧ ∀ x ∈ [u.p, u.q], x.length ≤ 1048576 := by
  have h1 := h.hh.1
  have h2 := h.hr.1
  have h3 := h.hp.1
  have h4 := h.hq.1
  refine ⟨by omega, by omega, by simp, fun x hx => ?_⟩
  simp only [List.mem_cons, List.not_mem_nil, or_false] at hx
  rcases hx with rfl | rfl <;> omega
theorem impl_sketched_at (l : List Int) (hl : l.length ≤ 1048576) (d : Nat) : ∀ (i : Nat) (u : Su), u.Ok → i + d = l.length →
    Ev (fun k => impl_Sketched.l0 k l (l.length : Int) (i : Int) u.c u.s u.mn u.mx u.h u.r [u.p, u.q]) (suT ((l.drop i).foldl suInsO u)) := by
  induction d with
  | zero =>
    intro i u hu hi
    refine Ev.step (fun _ => rfl) ?_
    simp only [impl_Sketched.l0]
    exact ev_neg (by omega) (ev_some (by rw [List.drop_of_length_le (by omega)]; rfl))
  | succ d ih =>
    intro i u hu hi
    refine Ev.step (fun _ => rfl) ?_
    simp only [impl_Sketched.l0]
    have hil : i < l.length := by omega
    obtain ⟨b1, b2, b3, b4⟩ := su_lens hu
    obtain ⟨t, e⟩ := ins_at hu (rd l (i : Int))
    have hins := impl_insert_ev u.c u.s u.mn u.mx u.h u.r [u.p, u.q] (rd l (i : Int)) b1 b2 b3 b4
    rw [e] at hins
    refine ev_pos (by omega) (ev_pos (by omega) (ev_pos (by omega) (Ev.bind hins ?_)))
    rw [wsucc (by omega)]
    have := ih (i + 1) (suInsO u (rd l (i : Int))) (suInsO_ok hu _) (by omega)
    rw [List.drop_eq_getElem_cons hil, List.foldl_cons, ← rd_get hil]
    exact this
theorem spec_sketched_at (l : List Int) (hl : l.length ≤ 1048576) (d : Nat) : ∀ (i : Nat) (u : Su), u.Ok → i + d = l.length →
    Ev (fun k => spec_Sketched.l0 k l (i : Int) u.c u.s u.mn u.mx u.h u.r [u.p, u.q]) (suT ((l.drop i).foldl suInsO u)) := by
  induction d with
  | zero =>
    intro i u hu hi
    refine Ev.step (fun _ => rfl) ?_
    simp only [spec_Sketched.l0]
    exact ev_neg (by omega) (ev_some (by rw [List.drop_of_length_le (by omega)]; rfl))
  | succ d ih =>
    intro i u hu hi
    refine Ev.step (fun _ => rfl) ?_
    simp only [spec_Sketched.l0]
    have hil : i < l.length := by omega
    obtain ⟨b1, b2, b3, b4⟩ := su_lens hu
    obtain ⟨t, e⟩ := ins_at hu (rd l (i : Int))
    have hins := spec_insert_ev u.c u.s u.mn u.mx u.h u.r [u.p, u.q] (rd l (i : Int)) b1 b2 b3 b4
    rw [e] at hins
    refine ev_pos (by omega) (ev_pos (by omega) (Ev.bind hins ?_))
    rw [wsucc (by omega)]
    have := ih (i + 1) (suInsO u (rd l (i : Int))) (suInsO_ok hu _) (by omega)
    rw [List.drop_eq_getElem_cons hil, List.foldl_cons, ← rd_get hil]
    exact this
theorem impl_sketched_ev (l : List Int) (hl : l.length ≤ 1048576) : Ev (fun k => impl_Sketched.f k l) (suT (suOf l)) := by
  unfold impl_Sketched.f
  refine ev_bind0 rfl ?_
  have := impl_sketched_at l hl l.length 0 Su.new Su.new_ok (by omega)
  exact this
theorem spec_sketched_ev (l : List Int) (hl : l.length ≤ 1048576) : Ev (fun k => spec_Sketched.f k l) (suT (suOf l)) := by
  unfold spec_Sketched.f
  refine ev_bind0 rfl ?_
  have := spec_sketched_at l hl l.length 0 Su.new Su.new_ok (by omega)
  exact this
set_option maxHeartbeats 16000000 in
theorem law0 (k : Nat) (M M1 c1 s1 lo1 hi1 : Int) (x : Sl) (l h1 r1 : List Int) (R1 : List (List Int)) (w : World) (hT : Aside0 (Tabs w)) (u : Ir w x l) (he : Aside0 (x.n = l.length)) (hV : decide ((x.n : Int) > 1048576) = false) (hV2 : decide (1048576 < (x.n : Int)) = false) (TO : Aside0 (laws_toIntS.f k l = some l))
    (SI : Aside0 (spec_Sketched.f k l = some (c1, s1, lo1, hi1, h1, r1, R1))) (II : Aside0 (impl_Sketched.f k l = some (c1, s1, lo1, hi1, h1, r1, R1)))
    (EQ : Aside0 (laws_eqIntS.f k l l = some true)) (EQ1 : Aside0 (laws_eqSketch.f k c1 s1 lo1 hi1 h1 r1 R1 c1 s1 lo1 hi1 h1 r1 R1 = some true))
    (MK : Aside0 (MkI k)) (LM : Aside0 ((1 : Int) + (l.length : Int) = M ∧ l.length ≤ 1048576)) (hM : decide (M < 0) = false)
    (LM1 : Aside0 ((1 : Int) + (h1.length : Int) + (r1.length : Int) + (lensII R1 : Nat) = M1 ∧ M1 ≤ 1073741824 ∧ h1.length ≤ 1048576 ∧ r1.length ≤ 1048576 ∧ R1.length ≤ 1048576 ∧ ∀ l ∈ R1, l.length ≤ 1048576)) (hM1 : decide (M1 < 0) = false)
    (HE : Aside0 (laws_heldSketch.f k c1 s1 lo1 hi1 (marksI 1 h1.length) (marksI (1 + (h1.length : Int)) r1.length) (marksII (1 + (h1.length : Int) + (r1.length : Int)) R1) 1 = some M1)) :
    Calls Tryd.prog 10 #[.slice x.A x.n x.c] w fun e w' => e = .returned (.bool true) ∧ Below w.heap.size w w' := by
  have U0 := Aside0.mk u
  have HB_0 := Aside0.mk (Below.refl w.heap.size w)
  clear u
  go_enter Tryd.func10, Tryd.ntmps10
  go_wp2_with fail
  refine (toI_callD k (U0.out.below HB_0.out) TO.out).mono ?_
  rintro e w1 ⟨v1, a1, b1, rfl, hs, hm, hb⟩
  have I1_1 := Aside0.mk hs
  clear hs
  have Z_2 := Aside0.mk hm
  clear hm
  unfold Made at Z_2
  have HB_3 := Aside0.mk (below_step HB_0.out hb)
  have Z_4 := Aside0.mk (hb.size)
  clear HB_0 hb
  go_wp2_with fail
  refine (specS_callD k c1 s1 lo1 hi1 h1 r1 R1 I1_1.out.rd SI.out).mono ?_
  rintro e w2 ⟨x2, y2, z2, a2, b2, rfl, hs, hm, hb⟩
  have w0_5 := Aside0.mk hs
  clear hs
  have Z_6 := Aside0.mk hm
  clear hm
  unfold Made at Z_6
  have I1_7 := Aside0.mk (I1_1.out.below hb)
  have HB_8 := Aside0.mk (below_step HB_3.out hb)
  have Z_9 := Aside0.mk (hb.size)
  clear I1_1 HB_3 hb
  clear I1_7
  have w0_10 := Aside0.mk (w0_5.out.below (below_alloc (Below.refl _ w2) (.cells #[.int .i64 c1, .int .i64 s1, .int .i64 lo1, .int .i64 hi1, .slice x2.A x2.n x2.c, .slice y2.A y2.n y2.c, .slice z2.A z2.n z2.c] 43)))
  have HB_11 := Aside0.mk (below_step HB_8.out (below_alloc (Below.refl _ w2) (.cells #[.int .i64 c1, .int .i64 s1, .int .i64 lo1, .int .i64 hi1, .slice x2.A x2.n x2.c, .slice y2.A y2.n y2.c, .slice z2.A z2.n z2.c] 43)))
  have Z_12 := Aside0.mk (show (w2.alloc (.cells #[.int .i64 c1, .int .i64 s1, .int .i64 lo1, .int .i64 hi1, .slice x2.A x2.n x2.c, .slice y2.A y2.n y2.c, .slice z2.A z2.n z2.c] 43)).heap.size = w2.heap.size + 1 by simp)
  have bw0_13 := Aside0.mk (Bx.new w2 43 #[.int .i64 c1, .int .i64 s1, .int .i64 lo1, .int .i64 hi1, .slice x2.A x2.n x2.c, .slice y2.A y2.n y2.c, .slice z2.A z2.n z2.c])
  clear w0_5 HB_8
  go_wp2_with fail
  refine (toI_callD k (U0.out.below HB_11.out) TO.out).mono ?_
  rintro e w3 ⟨v3, a3, b3, rfl, hs, hm, hb⟩
  have I3_14 := Aside0.mk hs
  clear hs
  have Z_15 := Aside0.mk hm
  clear hm
  unfold Made at Z_15
  have w0_16 := Aside0.mk (w0_10.out.below hb)
  have bw0_17 := Aside0.mk (bw0_13.out.below hb)
  have HB_18 := Aside0.mk (below_step HB_11.out hb)
  have Z_19 := Aside0.mk (hb.size)
  clear w0_10 bw0_13 HB_11 hb
  go_wp2_with fail
  refine (implS_callD k c1 s1 lo1 hi1 h1 r1 R1 (Tabs.below hT.out HB_18.out) I3_14.out.rd II.out).mono ?_
  rintro e w4 ⟨x4, y4, z4, a4, b4, rfl, hs, hm, hb⟩
  have g0_20 := Aside0.mk hs
  clear hs
  have Z_21 := Aside0.mk hm
  clear hm
  unfold Made at Z_21
  have w0_22 := Aside0.mk (w0_16.out.below hb)
  have bw0_23 := Aside0.mk (bw0_17.out.below hb)
  have I3_24 := Aside0.mk (I3_14.out.below hb)
  have HB_25 := Aside0.mk (below_step HB_18.out hb)
  have Z_26 := Aside0.mk (hb.size)
  clear w0_16 bw0_17 I3_14 HB_18 hb
  have w0_27 := Aside0.mk (w0_22.out.below (below_alloc (Below.refl _ w4) (.cells #[.int .i64 c1, .int .i64 s1, .int .i64 lo1, .int .i64 hi1, .slice x4.A x4.n x4.c, .slice y4.A y4.n y4.c, .slice z4.A z4.n z4.c] 43)))
  have bw0_28 := Aside0.mk (bw0_23.out.below (below_alloc (Below.refl _ w4) (.cells #[.int .i64 c1, .int .i64 s1, .int .i64 lo1, .int .i64 hi1, .slice x4.A x4.n x4.c, .slice y4.A y4.n y4.c, .slice z4.A z4.n z4.c] 43)))
  have I3_29 := Aside0.mk (I3_24.out.below (below_alloc (Below.refl _ w4) (.cells #[.int .i64 c1, .int .i64 s1, .int .i64 lo1, .int .i64 hi1, .slice x4.A x4.n x4.c, .slice y4.A y4.n y4.c, .slice z4.A z4.n z4.c] 43)))
  have g0_30 := Aside0.mk (g0_20.out.below (below_alloc (Below.refl _ w4) (.cells #[.int .i64 c1, .int .i64 s1, .int .i64 lo1, .int .i64 hi1, .slice x4.A x4.n x4.c, .slice y4.A y4.n y4.c, .slice z4.A z4.n z4.c] 43)))
  have HB_31 := Aside0.mk (below_step HB_25.out (below_alloc (Below.refl _ w4) (.cells #[.int .i64 c1, .int .i64 s1, .int .i64 lo1, .int .i64 hi1, .slice x4.A x4.n x4.c, .slice y4.A y4.n y4.c, .slice z4.A z4.n z4.c] 43)))
  have Z_32 := Aside0.mk (show (w4.alloc (.cells #[.int .i64 c1, .int .i64 s1, .int .i64 lo1, .int .i64 hi1, .slice x4.A x4.n x4.c, .slice y4.A y4.n y4.c, .slice z4.A z4.n z4.c] 43)).heap.size = w4.heap.size + 1 by simp)
  have bg0_33 := Aside0.mk (Bx.new w4 43 #[.int .i64 c1, .int .i64 s1, .int .i64 lo1, .int .i64 hi1, .slice x4.A x4.n x4.c, .slice y4.A y4.n y4.c, .slice z4.A z4.n z4.c])
  clear w0_22 bw0_23 I3_24 g0_20 HB_25
  obtain ⟨bg033c0, bg033c1, bg033c2, bg033c3, bg033c4, bg033c5, bg033c6⟩ := bg0_33.out.cells
  obtain ⟨bw034c0, bw034c1, bw034c2, bw034c3, bw034c4, bw034c5, bw034c6⟩ := bw0_28.out.cells
  go_wp2_with fail
  clear bg033c0 bg033c1 bg033c2 bg033c3 bg033c4 bg033c5 bg033c6 bw034c0 bw034c1 bw034c2 bw034c3 bw034c4 bw034c5 bw034c6
  refine (eq_callD k c1 s1 lo1 hi1 g0_30.out.rd w0_27.out.rd EQ1.out).mono ?_
  rintro e w5 ⟨rfl, hb⟩
  have w0_36 := Aside0.mk (w0_27.out.below hb)
  have bw0_37 := Aside0.mk (bw0_28.out.below hb)
  have I3_38 := Aside0.mk (I3_29.out.below hb)
  have g0_39 := Aside0.mk (g0_30.out.below hb)
  have bg0_40 := Aside0.mk (bg0_33.out.below hb)
  have HB_41 := Aside0.mk (below_step HB_31.out hb)
  have Z_42 := Aside0.mk (hb.size)
  clear w0_27 bw0_28 I3_29 g0_30 bg0_33 HB_31 hb
  go_wp2_with fail
  refine (toI_callD k (U0.out.below HB_41.out) TO.out).mono ?_
  rintro e w6 ⟨v5, a5, b5, rfl, hs, hm, hb⟩
  have I5_43 := Aside0.mk hs
  clear hs
  have Z_44 := Aside0.mk hm
  clear hm
  unfold Made at Z_44
  have w0_45 := Aside0.mk (w0_36.out.below hb)
  have bw0_46 := Aside0.mk (bw0_37.out.below hb)
  have I3_47 := Aside0.mk (I3_38.out.below hb)
  have g0_48 := Aside0.mk (g0_39.out.below hb)
  have bg0_49 := Aside0.mk (bg0_40.out.below hb)
  have HB_50 := Aside0.mk (below_step HB_41.out hb)
  have Z_51 := Aside0.mk (hb.size)
  clear w0_36 bw0_37 I3_38 g0_39 bg0_40 HB_41 hb
  go_wp2_with fail
  refine (eqI_callD k I3_47.out.rd I5_43.out.rd EQ.out).mono ?_
  rintro e w7 ⟨rfl, hb⟩
  have w0_52 := Aside0.mk (w0_45.out.below hb)
  have bw0_53 := Aside0.mk (bw0_46.out.below hb)
  have I3_54 := Aside0.mk (I3_47.out.below hb)
  have g0_55 := Aside0.mk (g0_48.out.below hb)
  have bg0_56 := Aside0.mk (bg0_49.out.below hb)
  have I5_57 := Aside0.mk (I5_43.out.below hb)
  have HB_58 := Aside0.mk (below_step HB_50.out hb)
  have Z_59 := Aside0.mk (hb.size)
  clear w0_45 bw0_46 I3_47 g0_48 bg0_49 I5_43 HB_50 hb
  clear I5_57
  go_wp2_with fail
  refine (markI_callD k MK M I3_54.out (by have := Z_2.out; have := Z_4.out; have := Z_6.out; have := Z_9.out; have := Z_12.out; have := Z_15.out; have := Z_19.out; have := Z_21.out; have := Z_26.out; have := Z_32.out; have := Z_42.out; have := Z_44.out; have := Z_51.out; have := Z_59.out; omega) LM).mono ?_
  rintro e w8 ⟨rfl, hs, hk⟩
  have I3_60 := Aside0.mk hs
  clear hs
  clear I3_54
  have w0_61 := Aside0.mk (w0_52.out.kp hk (by have := Z_2.out; have := Z_4.out; have := Z_6.out; have := Z_9.out; have := Z_12.out; have := Z_15.out; have := Z_19.out; have := Z_21.out; have := Z_26.out; have := Z_32.out; have := Z_42.out; have := Z_44.out; have := Z_51.out; have := Z_59.out; omega))
  have bw0_62 := Aside0.mk (bw0_53.out.kp hk (by have := Z_2.out; have := Z_4.out; have := Z_6.out; have := Z_9.out; have := Z_12.out; have := Z_15.out; have := Z_19.out; have := Z_21.out; have := Z_26.out; have := Z_32.out; have := Z_42.out; have := Z_44.out; have := Z_51.out; have := Z_59.out; omega))
  have g0_63 := Aside0.mk (g0_55.out.kp hk (by have := Z_2.out; have := Z_4.out; have := Z_6.out; have := Z_9.out; have := Z_12.out; have := Z_15.out; have := Z_19.out; have := Z_21.out; have := Z_26.out; have := Z_32.out; have := Z_42.out; have := Z_44.out; have := Z_51.out; have := Z_59.out; omega))
  have bg0_64 := Aside0.mk (bg0_56.out.kp hk (by have := Z_2.out; have := Z_4.out; have := Z_6.out; have := Z_9.out; have := Z_12.out; have := Z_15.out; have := Z_19.out; have := Z_21.out; have := Z_26.out; have := Z_32.out; have := Z_42.out; have := Z_44.out; have := Z_51.out; have := Z_59.out; omega))
  have HB_65 := Aside0.mk (below_kp HB_58.out hk (by have := Z_2.out; have := Z_4.out; have := Z_6.out; have := Z_9.out; have := Z_12.out; have := Z_15.out; have := Z_19.out; have := Z_21.out; have := Z_26.out; have := Z_32.out; have := Z_42.out; have := Z_44.out; have := Z_51.out; have := Z_59.out; omega) HB_58.out.size)
  have Z_66 := Aside0.mk (hk.kept.1)
  clear w0_52 bw0_53 g0_55 bg0_56 HB_58 hk
  obtain ⟨bg066c0, bg066c1, bg066c2, bg066c3, bg066c4, bg066c5, bg066c6⟩ := bg0_64.out.cells
  obtain ⟨bw067c0, bw067c1, bw067c2, bw067c3, bw067c4, bw067c5, bw067c6⟩ := bw0_62.out.cells
  go_wp2_with fail
  clear bg066c0 bg066c1 bg066c2 bg066c3 bg066c4 bg066c5 bg066c6 bw067c0 bw067c1 bw067c2 bw067c3 bw067c4 bw067c5 bw067c6
  refine (eq_callD k c1 s1 lo1 hi1 g0_63.out.rd w0_61.out.rd EQ1.out).mono ?_
  rintro e w9 ⟨rfl, hb⟩
  have w0_69 := Aside0.mk (w0_61.out.below hb)
  have bw0_70 := Aside0.mk (bw0_62.out.below hb)
  have g0_71 := Aside0.mk (g0_63.out.below hb)
  have bg0_72 := Aside0.mk (bg0_64.out.below hb)
  have I3_73 := Aside0.mk (I3_60.out.below hb)
  have HB_74 := Aside0.mk (below_step HB_65.out hb)
  have Z_75 := Aside0.mk (hb.size)
  clear w0_61 bw0_62 g0_63 bg0_64 I3_60 HB_65 hb
  obtain ⟨bg075c0, bg075c1, bg075c2, bg075c3, bg075c4, bg075c5, bg075c6⟩ := bg0_72.out.cells
  go_wp2_with fail
  clear bg075c0 bg075c1 bg075c2 bg075c3 bg075c4 bg075c5 bg075c6
  refine (mark_callM k MK c1 s1 lo1 hi1 1 M1 g0_71.out (by have := Z_2.out; have := Z_4.out; have := Z_6.out; have := Z_9.out; have := Z_12.out; have := Z_15.out; have := Z_19.out; have := Z_21.out; have := Z_26.out; have := Z_32.out; have := Z_42.out; have := Z_44.out; have := Z_51.out; have := Z_59.out; have := Z_66.out; have := Z_75.out; omega) (by have := Z_2.out; have := Z_4.out; have := Z_6.out; have := Z_9.out; have := Z_12.out; have := Z_15.out; have := Z_19.out; have := Z_21.out; have := Z_26.out; have := Z_32.out; have := Z_42.out; have := Z_44.out; have := Z_51.out; have := Z_59.out; have := Z_66.out; have := Z_75.out; omega) (by omega) LM1).mono ?_
  rintro e w10 ⟨rfl, hs, hk⟩
  have g0_77 := Aside0.mk hs
  clear hs
  clear g0_71
  have w0_78 := Aside0.mk (w0_69.out.kp hk (by have := Z_2.out; have := Z_4.out; have := Z_6.out; have := Z_9.out; have := Z_12.out; have := Z_15.out; have := Z_19.out; have := Z_21.out; have := Z_26.out; have := Z_32.out; have := Z_42.out; have := Z_44.out; have := Z_51.out; have := Z_59.out; have := Z_66.out; have := Z_75.out; omega))
  have bw0_79 := Aside0.mk (bw0_70.out.kp hk (by have := Z_2.out; have := Z_4.out; have := Z_6.out; have := Z_9.out; have := Z_12.out; have := Z_15.out; have := Z_19.out; have := Z_21.out; have := Z_26.out; have := Z_32.out; have := Z_42.out; have := Z_44.out; have := Z_51.out; have := Z_59.out; have := Z_66.out; have := Z_75.out; omega))
  have bg0_80 := Aside0.mk (bg0_72.out.kp hk (by have := Z_2.out; have := Z_4.out; have := Z_6.out; have := Z_9.out; have := Z_12.out; have := Z_15.out; have := Z_19.out; have := Z_21.out; have := Z_26.out; have := Z_32.out; have := Z_42.out; have := Z_44.out; have := Z_51.out; have := Z_59.out; have := Z_66.out; have := Z_75.out; omega))
  have I3_81 := Aside0.mk (I3_73.out.kp hk (by have := Z_2.out; have := Z_4.out; have := Z_6.out; have := Z_9.out; have := Z_12.out; have := Z_15.out; have := Z_19.out; have := Z_21.out; have := Z_26.out; have := Z_32.out; have := Z_42.out; have := Z_44.out; have := Z_51.out; have := Z_59.out; have := Z_66.out; have := Z_75.out; omega))
  have HB_82 := Aside0.mk (below_kp HB_74.out hk (by have := Z_2.out; have := Z_4.out; have := Z_6.out; have := Z_9.out; have := Z_12.out; have := Z_15.out; have := Z_19.out; have := Z_21.out; have := Z_26.out; have := Z_32.out; have := Z_42.out; have := Z_44.out; have := Z_51.out; have := Z_59.out; have := Z_66.out; have := Z_75.out; omega) HB_74.out.size)
  have Z_83 := Aside0.mk (hk.kept.1)
  clear w0_69 bw0_70 bg0_72 I3_73 HB_74 hk
  obtain ⟨bg083c0, bg083c1, bg083c2, bg083c3, bg083c4, bg083c5, bg083c6⟩ := bg0_80.out.cells
  go_wp2_with fail
  clear bg083c0 bg083c1 bg083c2 bg083c3 bg083c4 bg083c5 bg083c6
  refine (held_callD k c1 s1 lo1 hi1 1 M1 g0_77.out.rd HE.out).mono ?_
  rintro e w11 ⟨rfl, hb⟩
  have w0_85 := Aside0.mk (w0_78.out.below hb)
  have bw0_86 := Aside0.mk (bw0_79.out.below hb)
  have bg0_87 := Aside0.mk (bg0_80.out.below hb)
  have I3_88 := Aside0.mk (I3_81.out.below hb)
  have g0_89 := Aside0.mk (g0_77.out.below hb)
  have HB_90 := Aside0.mk (below_step HB_82.out hb)
  have Z_91 := Aside0.mk (hb.size)
  clear w0_78 bw0_79 bg0_80 I3_81 g0_77 HB_82 hb
  go_wp2_with fail
  refine (toI_callD k (U0.out.below HB_90.out) TO.out).mono ?_
  rintro e w12 ⟨v6, a6, b6, rfl, hs, hm, hb⟩
  have I6_92 := Aside0.mk hs
  clear hs
  have Z_93 := Aside0.mk hm
  clear hm
  unfold Made at Z_93
  have w0_94 := Aside0.mk (w0_85.out.below hb)
  have bw0_95 := Aside0.mk (bw0_86.out.below hb)
  have bg0_96 := Aside0.mk (bg0_87.out.below hb)
  have I3_97 := Aside0.mk (I3_88.out.below hb)
  have g0_98 := Aside0.mk (g0_89.out.below hb)
  have HB_99 := Aside0.mk (below_step HB_90.out hb)
  have Z_100 := Aside0.mk (hb.size)
  clear w0_85 bw0_86 bg0_87 I3_88 g0_89 HB_90 hb
  go_wp2_with fail
  refine (implS_callD k c1 s1 lo1 hi1 h1 r1 R1 (Tabs.below hT.out HB_99.out) I6_92.out.rd II.out).mono ?_
  rintro e w13 ⟨x7, y7, z7, a7, b7, rfl, hs, hm, hb⟩
  have h0_101 := Aside0.mk hs
  clear hs
  have Z_102 := Aside0.mk hm
  clear hm
  unfold Made at Z_102
  have w0_103 := Aside0.mk (w0_94.out.below hb)
  have bw0_104 := Aside0.mk (bw0_95.out.below hb)
  have bg0_105 := Aside0.mk (bg0_96.out.below hb)
  have I3_106 := Aside0.mk (I3_97.out.below hb)
  have g0_107 := Aside0.mk (g0_98.out.below hb)
  have I6_108 := Aside0.mk (I6_92.out.below hb)
  have HB_109 := Aside0.mk (below_step HB_99.out hb)
  have Z_110 := Aside0.mk (hb.size)
  clear w0_94 bw0_95 bg0_96 I3_97 g0_98 I6_92 HB_99 hb
  clear I6_108
  have w0_111 := Aside0.mk (w0_103.out.below (below_alloc (Below.refl _ w13) (.cells #[.int .i64 c1, .int .i64 s1, .int .i64 lo1, .int .i64 hi1, .slice x7.A x7.n x7.c, .slice y7.A y7.n y7.c, .slice z7.A z7.n z7.c] 43)))
  have bw0_112 := Aside0.mk (bw0_104.out.below (below_alloc (Below.refl _ w13) (.cells #[.int .i64 c1, .int .i64 s1, .int .i64 lo1, .int .i64 hi1, .slice x7.A x7.n x7.c, .slice y7.A y7.n y7.c, .slice z7.A z7.n z7.c] 43)))
  have bg0_113 := Aside0.mk (bg0_105.out.below (below_alloc (Below.refl _ w13) (.cells #[.int .i64 c1, .int .i64 s1, .int .i64 lo1, .int .i64 hi1, .slice x7.A x7.n x7.c, .slice y7.A y7.n y7.c, .slice z7.A z7.n z7.c] 43)))
  have I3_114 := Aside0.mk (I3_106.out.below (below_alloc (Below.refl _ w13) (.cells #[.int .i64 c1, .int .i64 s1, .int .i64 lo1, .int .i64 hi1, .slice x7.A x7.n x7.c, .slice y7.A y7.n y7.c, .slice z7.A z7.n z7.c] 43)))
  have g0_115 := Aside0.mk (g0_107.out.below (below_alloc (Below.refl _ w13) (.cells #[.int .i64 c1, .int .i64 s1, .int .i64 lo1, .int .i64 hi1, .slice x7.A x7.n x7.c, .slice y7.A y7.n y7.c, .slice z7.A z7.n z7.c] 43)))
  have h0_116 := Aside0.mk (h0_101.out.below (below_alloc (Below.refl _ w13) (.cells #[.int .i64 c1, .int .i64 s1, .int .i64 lo1, .int .i64 hi1, .slice x7.A x7.n x7.c, .slice y7.A y7.n y7.c, .slice z7.A z7.n z7.c] 43)))
  have HB_117 := Aside0.mk (below_step HB_109.out (below_alloc (Below.refl _ w13) (.cells #[.int .i64 c1, .int .i64 s1, .int .i64 lo1, .int .i64 hi1, .slice x7.A x7.n x7.c, .slice y7.A y7.n y7.c, .slice z7.A z7.n z7.c] 43)))
  have Z_118 := Aside0.mk (show (w13.alloc (.cells #[.int .i64 c1, .int .i64 s1, .int .i64 lo1, .int .i64 hi1, .slice x7.A x7.n x7.c, .slice y7.A y7.n y7.c, .slice z7.A z7.n z7.c] 43)).heap.size = w13.heap.size + 1 by simp)
  have bh0_119 := Aside0.mk (Bx.new w13 43 #[.int .i64 c1, .int .i64 s1, .int .i64 lo1, .int .i64 hi1, .slice x7.A x7.n x7.c, .slice y7.A y7.n y7.c, .slice z7.A z7.n z7.c])
  clear w0_103 bw0_104 bg0_105 I3_106 g0_107 h0_101 HB_109
  obtain ⟨bh0119c0, bh0119c1, bh0119c2, bh0119c3, bh0119c4, bh0119c5, bh0119c6⟩ := bh0_119.out.cells
  obtain ⟨bw0120c0, bw0120c1, bw0120c2, bw0120c3, bw0120c4, bw0120c5, bw0120c6⟩ := bw0_112.out.cells
  go_wp2_with fail
  clear bh0119c0 bh0119c1 bh0119c2 bh0119c3 bh0119c4 bh0119c5 bh0119c6 bw0120c0 bw0120c1 bw0120c2 bw0120c3 bw0120c4 bw0120c5 bw0120c6
  refine (eq_callD k c1 s1 lo1 hi1 h0_116.out.rd w0_111.out.rd EQ1.out).mono ?_
  rintro e w14 ⟨rfl, hb⟩
  have w0_122 := Aside0.mk (w0_111.out.below hb)
  have bw0_123 := Aside0.mk (bw0_112.out.below hb)
  have bg0_124 := Aside0.mk (bg0_113.out.below hb)
  have I3_125 := Aside0.mk (I3_114.out.below hb)
  have g0_126 := Aside0.mk (g0_115.out.below hb)
  have h0_127 := Aside0.mk (h0_116.out.below hb)
  have bh0_128 := Aside0.mk (bh0_119.out.below hb)
  have HB_129 := Aside0.mk (below_step HB_117.out hb)
  have Z_130 := Aside0.mk (hb.size)
  clear w0_111 bw0_112 bg0_113 I3_114 g0_115 h0_116 bh0_119 HB_117 hb
  obtain ⟨bg0130c0, bg0130c1, bg0130c2, bg0130c3, bg0130c4, bg0130c5, bg0130c6⟩ := bg0_124.out.cells
  go_wp2_with fail
  clear bg0130c0 bg0130c1 bg0130c2 bg0130c3 bg0130c4 bg0130c5 bg0130c6
  refine (held_callD k c1 s1 lo1 hi1 1 M1 g0_126.out.rd HE.out).mono ?_
  rintro e w15 ⟨rfl, hb⟩
  have w0_132 := Aside0.mk (w0_122.out.below hb)
  have bw0_133 := Aside0.mk (bw0_123.out.below hb)
  have bg0_134 := Aside0.mk (bg0_124.out.below hb)
  have I3_135 := Aside0.mk (I3_125.out.below hb)
  have g0_136 := Aside0.mk (g0_126.out.below hb)
  have h0_137 := Aside0.mk (h0_127.out.below hb)
  have bh0_138 := Aside0.mk (bh0_128.out.below hb)
  have HB_139 := Aside0.mk (below_step HB_129.out hb)
  have Z_140 := Aside0.mk (hb.size)
  clear w0_122 bw0_123 bg0_124 I3_125 g0_126 h0_127 bh0_128 HB_129 hb
  go_wp2
  go_ret
  exact ⟨rfl, HB_139.out⟩

theorem law1 (x : Sl) (w : World) (hV : decide ((x.n : Int) > 1048576) = true) (hV2 : decide (1048576 < (x.n : Int)) = true) :
    Calls Tryd.prog 10 #[.slice x.A x.n x.c] w fun e w' => e = .returned (.bool true) ∧ Below w.heap.size w w' := by
  go_enter Tryd.func10, Tryd.ntmps10
  go_wp2
  go_ret
  exact ⟨rfl, Below.refl _ _⟩
set_option maxRecDepth 100000 in
theorem law (A0 : Option Addr) (c0 : Nat) (l : List Int) (w : World) (hT : TabAt 1 Lib.deBruijn64tab w) (C0 : (Kd.int .i64).C w A0 l.length l) (l0 : l.length ≤ c0)
    (hl : l.length ≤ 9223372036854775807 ∧ ∀ x ∈ l, (-9223372036854775808 ≤ x ∧ x ≤ 9223372036854775807)) :
    Calls Tryd.prog 10 #[.slice A0 l.length c0] w fun e w' => e = .returned (.bool true) ∧ Below w.heap.size w w' := by
  have u : Ir w ⟨A0, l.length, c0⟩ l := ⟨rfl, l0, C0⟩
  by_cases hneg : (l.length : Int) > 1048576
  · exact law1 ⟨A0, l.length, c0⟩ w (decide_eq_true hneg) (decide_eq_true hneg)
  · have b1 : l.length ≤ 1048576 := by omega
    have ok := suOf_ok l
    obtain ⟨K1, h1⟩ := toIntS_ev l b1
    obtain ⟨K2, h2⟩ := spec_sketched_ev l b1
    obtain ⟨K3, h3⟩ := impl_sketched_ev l b1
    obtain ⟨K4, h4⟩ := eqIntS_ev l b1
    obtain ⟨d1, d2, d3, d4⟩ := su_lens ok
    have e1 := ok.hh.1
    have e2 := ok.hr.1
    have e3 := ok.hp.1
    have e4 := ok.hq.1
    unfold suT at h2 h3
    generalize suOf l = u1 at *
    have d5 : lensII [u1.p, u1.q] = 8 := by simp only [lensII]; omega
    generalize [u1.p, u1.q] = R1 at *
    obtain ⟨K5, h5⟩ := eqSketch_ev u1.c u1.s u1.mn u1.mx u1.h u1.r R1 d1 d2 d3 d4
    obtain ⟨K6, h6⟩ := heldSketch_ev u1.c u1.s u1.mn u1.mx 1 u1.h.length u1.r.length R1 (by omega) (by omega) (by omega) (by omega) (by omega) d4
    generalize hK : K1 + K2 + K3 + K4 + K5 + K6 + 1048577 = k
    have q1 := h1 k (by omega)
    have q2 := h2 k (by omega)
    have q3 := h3 k (by omega)
    have q4 := h4 k (by omega)
    have q5 := h5 k (by omega)
    have q6 := h6 k (by omega)
    have q8 : MkI k := mkI k (by omega)
    have L := law0 k ((1 : Int) + (l.length : Int)) ((1 : Int) + (u1.h.length : Int) + (u1.r.length : Int) + (lensII R1 : Nat)) u1.c u1.s u1.mn u1.mx ⟨A0, l.length, c0⟩ l u1.h u1.r R1 w ⟨hT⟩ u ⟨rfl⟩ (decide_eq_false hneg) (decide_eq_false (by show ¬ 1048576 < (l.length : Int); omega)) ⟨q1⟩ ⟨q2⟩ ⟨q3⟩ ⟨q4⟩ ⟨q5⟩ ⟨q8⟩ ⟨rfl, b1⟩ (decide_eq_false (by omega)) ⟨rfl, by omega, by omega, by omega, by omega, d4⟩ (decide_eq_false (by omega)) ⟨q6⟩
    exact L

end Go.Proofs.YtkpicmjncfhnmaaDoor.HFnExactSketched
