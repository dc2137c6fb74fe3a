-- Written by this session's changed copy of the kit's printer (wip/patch_print.py): not the kit's own print.
import Derived.Test.YtdciagkholijlaaPFnExactEntryAddx0
import Derived.Test.YtdciagkholijlaaPFnExactEntryAddx8
import Derived.Test.YtdciagkholijlaaPFnExactEntryAddx9
namespace Go.Proofs.Ytdciagkholijlaa.PFnExactEntryAdd
open Go.RowKit Go.Proofs.YtdciagkholijlaaW.PrintWords Go.Proofs.YtdciagkholijlaaW.PrintLast Go.Proofs.YtdciagkholijlaaW.PrintMore
attribute [local go_sem] max2_int min2_int max_two min_two max_three min_three max_four min_four   -- for this text's walks alone
set_option linter.unusedVariables false
set_option linter.unusedSimpArgs false
theorem Z10x0 {p : Prop} (h : p := by first | (with_reducible assumption) | assumption) : p := h
theorem Z10x1 {p : Prop} (h : p := by repeat (first | (with_reducible first | exact HB.out | apply below_alloc | apply pw_below_drewN | apply below_drew1) | exact HB.out)) : p := h
theorem Z10x2 {p : Prop} (h : p := by repeat (first | (with_reducible first | exact HB.out | apply below_alloc | apply pw_below_drewN | apply below_drew1 | refine below_set ?_ GE259.out) | exact HB.out)) : p := h
theorem Z10x3 {p : Prop} (h : p := by repeat (first | exact Drawn0.refl _ | apply Drawn0.step)) : p := h
theorem Z10x4 {p : Prop} (h : p := by first | rfl | (simp; done) | (simp [*]; done)) : p := h
theorem Z10x5 {p : Prop} (h : p := by repeat (first | exact HR0.out | (with_reducible refine Kd.C_alloc ?_ _) | (with_reducible refine Kd.C_drewN ?_ _) | (with_reducible refine Kd.C_drew ?_))) : p := h
theorem Z10x6 {p : Prop} (h : p := by (try simp only [List.map_toArray, List.map_cons, List.map_nil]); first | done | rfl | (simp only [List.length_drop, List.length_take]; rfl)) : p := h
theorem Z10x7 {p : Prop} (h : p := by first | rfl | (simp [errW_none, errW_some] <;> rfl) | (simp [*, errW_none, errW_some] <;> rfl)) : p := h
theorem Z10x8 {p : Prop} (h : p := by repeat (first | exact HR1.out | (with_reducible refine Kd.C_alloc ?_ _) | (with_reducible refine Kd.C_drewN ?_ _) | (with_reducible refine Kd.C_drew ?_))) : p := h

def spec_SetOk.l0 : Nat → List (S70) → Int → Option (Bool)
 | 0, _, _ => none
 | k + 1, x0, x3 => if x3 < (x0.length : Int) then (if 0 ≤ x3 then ((spec_l1In.f ((rd_T70 x0 x3).f0) 0 9999).bind fun t253 => (if t253 = true then ((spec_l1In.f ((rd_T70 x0 x3).f1) ((rd_T70 x0 x3).f0) 9999).bind fun t256 => (if t256 = true then (if x3 > 0 then (if 0 ≤ (wrap64 (x3 - 1)) then (if (wrap64 (x3 - 1)) < (x0.length : Int) then (if ((rd_T70 x0 x3).f0) ≤ (wrap64 (((rd_T70 x0 (wrap64 (x3 - 1))).f1) + 1)) then (some false) else (spec_SetOk.l0 k x0 (wrap64 (x3 + 1)))) else (none)) else (none)) else (spec_SetOk.l0 k x0 (wrap64 (x3 + 1)))) else (some false))) else (some false))) else (none)) else (some true)
def spec_SetOk.f (k : Nat) (l0 : List (S70)) : Option (Bool) := spec_SetOk.l0 k l0 0
theorem spec_SetOk.mono_l : ∀ k, (∀ y0 y1, LeO (spec_SetOk.l0 k y0 y1) (spec_SetOk.l0 (k + 1) y0 y1))
 | 0 => fun _ _ r h => by simp [spec_SetOk.l0] at h
 | k + 1 => by
  have ih0 := spec_SetOk.mono_l k
  ·intro y0 y1
   unfold spec_SetOk.l0
   repeat' first
   | (with_reducible exact ih0 _ _)
   | (with_reducible exact LeO.refl _)
   | (with_reducible exact LeO.none _)
   | (with_reducible refine LeO.ite ?_ ?_)
   | (with_reducible refine LeO.bind ?_ (fun _ => ?_))
   | exact ih0 _ _
   | exact LeO.none _
   | refine LeO.ite ?_ ?_
   | refine LeO.bind ?_ (fun _ => ?_)
theorem spec_SetOk.mono : ∀ a0 k, LeO (spec_SetOk.f k a0) (spec_SetOk.f (k + 1) a0) := by
 intro a0 k
 have ih0 := spec_SetOk.mono_l k
 unfold spec_SetOk.f
 repeat' first
   | (with_reducible exact ih0 _ _)
   | (with_reducible exact LeO.refl _)
   | (with_reducible exact LeO.none _)
   | (with_reducible refine LeO.ite ?_ ?_)
   | (with_reducible refine LeO.bind ?_ (fun _ => ?_))
   | exact ih0 _ _
   | exact LeO.none _
   | refine LeO.ite ?_ ?_
   | refine LeO.bind ?_ (fun _ => ?_)
set_option maxHeartbeats 8000000 in
set_option maxRecDepth 100000 in
theorem spec_SetOk.calls (k : Nat) (A0 : Option Addr) (c0 : Nat) (l0 : List (S70)) (r : Bool) (w : World) (hr0 : Kd.C k70 w A0 l0.length l0) (hc0 : l0.length ≤ c0) (h : spec_SetOk.f k l0 = some r) :
  Calls Try.prog 92 #[.slice A0 l0.length c0] w fun e w' => e = .returned (.bool r) ∧ Drawn0 w w' := by
 have HR0 := Aside0.mk hr0
 have HC0 := Aside0.mk hc0
 clear hr0 hc0
 have H : (spec_SetOk.l0 k l0 0) = some r := h
 clear h
 have H' := Aside0.mk H
 clear H
 go_enter Try.func92, Try.ntmps92
 go_wp2
 repeat (go_quiet (fail); try go_wp2)
 go_loopg [3] k (fun kq v3 w' => ∃ (x3_1 : Int), v3 = .int .i64 x3_1 ∧ Aside0 (spec_SetOk.l0 kq l0 x3_1 = some r) ∧ Aside0 (kq ≤ k) ∧ Drawn0 w w')
 case atStart => exact ⟨(0), Z10x4, H', ⟨Nat.le_refl _⟩, Z10x3⟩
 case round =>
  clear H'
  obtain ⟨x3_1, rfl, HA, HK1, ⟨m1, rfl⟩⟩ := hrel
  cases gk with
  | zero => exact absurd HA.out (by simp [spec_SetOk.l0])
  | succ k1 =>
   have H := HA.out
   clear HA
   simp only [spec_SetOk.l0] at H
   by_cases c2 : x3_1 < (l0.length : Int)
   ·rw [if_pos c2] at H
    have c2b0 : decide (x3_1 < (l0.length : Int)) = true := decide_eq_true c2;clear c2
    by_cases c3 : 0 ≤ x3_1
    ·rw [if_pos c3] at H
     have c3b0 : decide (0 ≤ x3_1) = true := decide_eq_true c3;clear c3;replace H := Option.bind_eq_some_iff.mp H;obtain ⟨t253, A40, H⟩ := H;replace H : (if t253 = true then ((spec_l1In.f ((rd_T70 l0 x3_1).f1) ((rd_T70 l0 x3_1).f0) 9999).bind fun t256 => (if t256 = true then (if x3_1 > 0 then (if 0 ≤ (wrap64 (x3_1 - 1)) then (if (wrap64 (x3_1 - 1)) < (l0.length : Int) then (if ((rd_T70 l0 x3_1).f0) ≤ (wrap64 (((rd_T70 l0 (wrap64 (x3_1 - 1))).f1) + 1)) then (some false) else (spec_SetOk.l0 k1 l0 (wrap64 (x3_1 + 1)))) else (none)) else (none)) else (spec_SetOk.l0 k1 l0 (wrap64 (x3_1 + 1)))) else (some false))) else (some false)) = some r := H;have A4 := Aside0.mk A40;clear A40
     by_cases c5 : t253 = true
     ·subst c5
      have H1 : ((spec_l1In.f ((rd_T70 l0 x3_1).f1) ((rd_T70 l0 x3_1).f0) 9999).bind fun t256 => (if t256 = true then (if x3_1 > 0 then (if 0 ≤ (wrap64 (x3_1 - 1)) then (if (wrap64 (x3_1 - 1)) < (l0.length : Int) then (if ((rd_T70 l0 x3_1).f0) ≤ (wrap64 (((rd_T70 l0 (wrap64 (x3_1 - 1))).f1) + 1)) then (some false) else (spec_SetOk.l0 k1 l0 (wrap64 (x3_1 + 1)))) else (none)) else (none)) else (spec_SetOk.l0 k1 l0 (wrap64 (x3_1 + 1)))) else (some false))) = some r := by rw [if_pos rfl] at H; exact H
      clear H;have H := H1;clear H1;replace H := Option.bind_eq_some_iff.mp H;obtain ⟨t256, A60, H⟩ := H;replace H : (if t256 = true then (if x3_1 > 0 then (if 0 ≤ (wrap64 (x3_1 - 1)) then (if (wrap64 (x3_1 - 1)) < (l0.length : Int) then (if ((rd_T70 l0 x3_1).f0) ≤ (wrap64 (((rd_T70 l0 (wrap64 (x3_1 - 1))).f1) + 1)) then (some false) else (spec_SetOk.l0 k1 l0 (wrap64 (x3_1 + 1)))) else (none)) else (none)) else (spec_SetOk.l0 k1 l0 (wrap64 (x3_1 + 1)))) else (some false)) = some r := H;have A6 := Aside0.mk A60;clear A60
      by_cases c7 : t256 = true
      ·subst c7
       have H1 : (if x3_1 > 0 then (if 0 ≤ (wrap64 (x3_1 - 1)) then (if (wrap64 (x3_1 - 1)) < (l0.length : Int) then (if ((rd_T70 l0 x3_1).f0) ≤ (wrap64 (((rd_T70 l0 (wrap64 (x3_1 - 1))).f1) + 1)) then (some false) else (spec_SetOk.l0 k1 l0 (wrap64 (x3_1 + 1)))) else (none)) else (none)) else (spec_SetOk.l0 k1 l0 (wrap64 (x3_1 + 1)))) = some r := by rw [if_pos rfl] at H; exact H
       clear H;have H := H1;clear H1
       by_cases c8 : x3_1 > 0
       ·rw [if_pos c8] at H
        have c8b0 : decide (0 < x3_1) = true := decide_eq_true c8;clear c8;obtain ⟨ji9, hji9⟩ : ∃ j_ : Int, (wrap64 (x3_1 - 1)) = j_ := ⟨_, rfl⟩
        replace H : (if 0 ≤ (ji9) then (if (ji9) < (l0.length : Int) then (if ((rd_T70 l0 x3_1).f0) ≤ (wrap64 (((rd_T70 l0 (ji9)).f1) + 1)) then (some false) else (spec_SetOk.l0 k1 l0 (wrap64 (x3_1 + 1)))) else (none)) else (none)) = some r := by first | (rw [hji9] at H; exact H) | (simp only [hji9] at H ⊢; exact H)
        (try rw [hji9] at A4)
        (try rw [hji9] at A6)
        have hji9w : (IntKind.i64.wrap (x3_1 - 1)) = ji9 := (i64_w _).trans hji9
        by_cases c10 : 0 ≤ (ji9)
        ·rw [if_pos c10] at H
         have c10b0 : decide (0 ≤ (ji9)) = true := decide_eq_true c10;clear c10
         by_cases c11 : (ji9) < (l0.length : Int)
         ·rw [if_pos c11] at H
          have c11b0 : decide ((ji9) < (l0.length : Int)) = true := decide_eq_true c11;clear c11
          by_cases c12 : ((rd_T70 l0 x3_1).f0) ≤ (wrap64 (((rd_T70 l0 (ji9)).f1) + 1))
          ·rw [if_pos c12] at H
           have c12b0 : decide (((rd_T70 l0 x3_1).f0) ≤ (wrap64 (((rd_T70 l0 (ji9)).f1) + 1))) = true := decide_eq_true c12
           (try (have c12b1 : decide (((rd_T70 l0 x3_1).f0) ≤ (IntKind.i64.wrap (((rd_T70 l0 (ji9)).f1) + 1))) = true := by simp only [i64_w]; first | exact decide_eq_true c12 | simpa using c12))
           clear c12;obtain rfl := Option.some.inj H;simp only [Option.some.injEq, Prod.mk.injEq] at H;obtain ⟨rfl⟩ := H;have p252 : 0 ≤ (x3_1 : Int) := of_decide_eq_true Z10x0;have q252 : x3_1 < (l0.length : Int) := of_decide_eq_true Z10x0;obtain ⟨ad252, e252, hx252_0, hx252_1⟩ := at_T70 HR0.out x3_1 p252 q252
           cases e252
           replace p252 := eq_true p252;replace q252 := eq_true q252;have p258 : 0 ≤ ((ji9) : Int) := of_decide_eq_true Z10x0;have q258 : (ji9) < (l0.length : Int) := of_decide_eq_true Z10x0;obtain ⟨ad258, e258, hx258_0, hx258_1⟩ := at_T70 HR0.out (ji9) p258 q258;obtain rfl : ad252 = ad258 := (by injection e258);replace p258 := eq_true p258;replace q258 := eq_true q258
           go_wp2_with (first | (go_at_call 42; (with_reducible refine (spec_l1In.calls ((rd_T70 l0 x3_1).f0) 0 9999 true _ A4.out).mono ?_); rintro e w' ⟨rfl, ⟨nd, rfl⟩⟩; (try first | exact ⟨rfl, _, World.drewN_drewN _ _ _⟩ | exact ⟨rfl, _, Eq.trans (World.drewN_drewN _ _ _) (congrArg (World.drewN _) (Nat.add_assoc _ _ _))⟩); have p254 : 0 ≤ (x3_1 : Int) := of_decide_eq_true Z10x0; have q254 : x3_1 < (l0.length : Int) := of_decide_eq_true Z10x0; obtain ⟨ad254, e254, hx254_0, hx254_1⟩ := at_T70 HR0.out x3_1 p254 q254; obtain rfl : ad252 = ad254 := (by injection e254); replace p254 := eq_true p254; replace q254 := eq_true q254; have p255 : 0 ≤ (x3_1 : Int) := of_decide_eq_true Z10x0; have q255 : x3_1 < (l0.length : Int) := of_decide_eq_true Z10x0; obtain ⟨ad255, e255, hx255_0, hx255_1⟩ := at_T70 HR0.out x3_1 p255 q255; obtain rfl : ad252 = ad255 := (by injection e255); replace p255 := eq_true p255; replace q255 := eq_true q255) | (go_at_call 42; (with_reducible refine (spec_l1In.calls ((rd_T70 l0 x3_1).f1) ((rd_T70 l0 x3_1).f0) 9999 true _ A6.out).mono ?_); rintro e w' ⟨rfl, ⟨nd, rfl⟩⟩; (try first | exact ⟨rfl, _, World.drewN_drewN _ _ _⟩ | exact ⟨rfl, _, Eq.trans (World.drewN_drewN _ _ _) (congrArg (World.drewN _) (Nat.add_assoc _ _ _))⟩); have p257 : 0 ≤ (x3_1 : Int) := of_decide_eq_true Z10x0; have q257 : x3_1 < (l0.length : Int) := of_decide_eq_true Z10x0; obtain ⟨ad257, e257, hx257_0, hx257_1⟩ := at_T70 HR0.out x3_1 p257 q257; obtain rfl : ad252 = ad257 := (by injection e257); replace p257 := eq_true p257; replace q257 := eq_true q257; have p258 : 0 ≤ ((ji9) : Int) := of_decide_eq_true Z10x0; have q258 : (ji9) < (l0.length : Int) := of_decide_eq_true Z10x0; obtain ⟨ad258, e258, hx258_0, hx258_1⟩ := at_T70 HR0.out (ji9) p258 q258; obtain rfl : ad252 = ad258 := (by injection e258); replace p258 := eq_true p258; replace q258 := eq_true q258))
           repeat (go_quiet (first | (go_at_call 42; (with_reducible refine (spec_l1In.calls ((rd_T70 l0 x3_1).f0) 0 9999 true _ A4.out).mono ?_); rintro e w' ⟨rfl, ⟨nd, rfl⟩⟩; (try first | exact ⟨rfl, _, World.drewN_drewN _ _ _⟩ | exact ⟨rfl, _, Eq.trans (World.drewN_drewN _ _ _) (congrArg (World.drewN _) (Nat.add_assoc _ _ _))⟩)) | (go_at_call 42; (with_reducible refine (spec_l1In.calls ((rd_T70 l0 x3_1).f1) ((rd_T70 l0 x3_1).f0) 9999 true _ A6.out).mono ?_); rintro e w' ⟨rfl, ⟨nd, rfl⟩⟩; (try first | exact ⟨rfl, _, World.drewN_drewN _ _ _⟩ | exact ⟨rfl, _, Eq.trans (World.drewN_drewN _ _ _) (congrArg (World.drewN _) (Nat.add_assoc _ _ _))⟩))); try go_wp2_with (first | (go_at_call 42; (with_reducible refine (spec_l1In.calls ((rd_T70 l0 x3_1).f0) 0 9999 true _ A4.out).mono ?_); rintro e w' ⟨rfl, ⟨nd, rfl⟩⟩; (try first | exact ⟨rfl, _, World.drewN_drewN _ _ _⟩ | exact ⟨rfl, _, Eq.trans (World.drewN_drewN _ _ _) (congrArg (World.drewN _) (Nat.add_assoc _ _ _))⟩); have p254 : 0 ≤ (x3_1 : Int) := of_decide_eq_true Z10x0; have q254 : x3_1 < (l0.length : Int) := of_decide_eq_true Z10x0; obtain ⟨ad254, e254, hx254_0, hx254_1⟩ := at_T70 HR0.out x3_1 p254 q254; obtain rfl : ad252 = ad254 := (by injection e254); replace p254 := eq_true p254; replace q254 := eq_true q254; have p255 : 0 ≤ (x3_1 : Int) := of_decide_eq_true Z10x0; have q255 : x3_1 < (l0.length : Int) := of_decide_eq_true Z10x0; obtain ⟨ad255, e255, hx255_0, hx255_1⟩ := at_T70 HR0.out x3_1 p255 q255; obtain rfl : ad252 = ad255 := (by injection e255); replace p255 := eq_true p255; replace q255 := eq_true q255) | (go_at_call 42; (with_reducible refine (spec_l1In.calls ((rd_T70 l0 x3_1).f1) ((rd_T70 l0 x3_1).f0) 9999 true _ A6.out).mono ?_); rintro e w' ⟨rfl, ⟨nd, rfl⟩⟩; (try first | exact ⟨rfl, _, World.drewN_drewN _ _ _⟩ | exact ⟨rfl, _, Eq.trans (World.drewN_drewN _ _ _) (congrArg (World.drewN _) (Nat.add_assoc _ _ _))⟩); have p257 : 0 ≤ (x3_1 : Int) := of_decide_eq_true Z10x0; have q257 : x3_1 < (l0.length : Int) := of_decide_eq_true Z10x0; obtain ⟨ad257, e257, hx257_0, hx257_1⟩ := at_T70 HR0.out x3_1 p257 q257; obtain rfl : ad252 = ad257 := (by injection e257); replace p257 := eq_true p257; replace q257 := eq_true q257; have p258 : 0 ≤ ((ji9) : Int) := of_decide_eq_true Z10x0; have q258 : (ji9) < (l0.length : Int) := of_decide_eq_true Z10x0; obtain ⟨ad258, e258, hx258_0, hx258_1⟩ := at_T70 HR0.out (ji9) p258 q258; obtain rfl : ad252 = ad258 := (by injection e258); replace p258 := eq_true p258; replace q258 := eq_true q258)))
           go_ret
           exact ⟨by first | rfl | (simp; done) | (simp only [← hji9] <;> (first | rfl | simp)) | (simp [*]; done), Z10x3⟩
          ·rw [if_neg c12] at H
           have c12b0 : decide (((rd_T70 l0 x3_1).f0) ≤ (wrap64 (((rd_T70 l0 (ji9)).f1) + 1))) = false := decide_eq_false c12
           (try (have c12b1 : decide (((rd_T70 l0 x3_1).f0) ≤ (IntKind.i64.wrap (((rd_T70 l0 (ji9)).f1) + 1))) = false := by simp only [i64_w]; first | exact decide_eq_false c12 | simpa using c12))
           clear c12;have H' := Aside0.mk H;clear H;have p252 : 0 ≤ (x3_1 : Int) := of_decide_eq_true Z10x0;have q252 : x3_1 < (l0.length : Int) := of_decide_eq_true Z10x0;obtain ⟨ad252, e252, hx252_0, hx252_1⟩ := at_T70 HR0.out x3_1 p252 q252
           cases e252
           replace p252 := eq_true p252;replace q252 := eq_true q252;have p258 : 0 ≤ ((ji9) : Int) := of_decide_eq_true Z10x0;have q258 : (ji9) < (l0.length : Int) := of_decide_eq_true Z10x0;obtain ⟨ad258, e258, hx258_0, hx258_1⟩ := at_T70 HR0.out (ji9) p258 q258;obtain rfl : ad252 = ad258 := (by injection e258);replace p258 := eq_true p258;replace q258 := eq_true q258
           go_wp2_with (first | (go_at_call 42; (with_reducible refine (spec_l1In.calls ((rd_T70 l0 x3_1).f0) 0 9999 true _ A4.out).mono ?_); rintro e w' ⟨rfl, ⟨nd, rfl⟩⟩; (try first | exact ⟨rfl, _, World.drewN_drewN _ _ _⟩ | exact ⟨rfl, _, Eq.trans (World.drewN_drewN _ _ _) (congrArg (World.drewN _) (Nat.add_assoc _ _ _))⟩); have p254 : 0 ≤ (x3_1 : Int) := of_decide_eq_true Z10x0; have q254 : x3_1 < (l0.length : Int) := of_decide_eq_true Z10x0; obtain ⟨ad254, e254, hx254_0, hx254_1⟩ := at_T70 HR0.out x3_1 p254 q254; obtain rfl : ad252 = ad254 := (by injection e254); replace p254 := eq_true p254; replace q254 := eq_true q254; have p255 : 0 ≤ (x3_1 : Int) := of_decide_eq_true Z10x0; have q255 : x3_1 < (l0.length : Int) := of_decide_eq_true Z10x0; obtain ⟨ad255, e255, hx255_0, hx255_1⟩ := at_T70 HR0.out x3_1 p255 q255; obtain rfl : ad252 = ad255 := (by injection e255); replace p255 := eq_true p255; replace q255 := eq_true q255) | (go_at_call 42; (with_reducible refine (spec_l1In.calls ((rd_T70 l0 x3_1).f1) ((rd_T70 l0 x3_1).f0) 9999 true _ A6.out).mono ?_); rintro e w' ⟨rfl, ⟨nd, rfl⟩⟩; (try first | exact ⟨rfl, _, World.drewN_drewN _ _ _⟩ | exact ⟨rfl, _, Eq.trans (World.drewN_drewN _ _ _) (congrArg (World.drewN _) (Nat.add_assoc _ _ _))⟩); have p257 : 0 ≤ (x3_1 : Int) := of_decide_eq_true Z10x0; have q257 : x3_1 < (l0.length : Int) := of_decide_eq_true Z10x0; obtain ⟨ad257, e257, hx257_0, hx257_1⟩ := at_T70 HR0.out x3_1 p257 q257; obtain rfl : ad252 = ad257 := (by injection e257); replace p257 := eq_true p257; replace q257 := eq_true q257; have p258 : 0 ≤ ((ji9) : Int) := of_decide_eq_true Z10x0; have q258 : (ji9) < (l0.length : Int) := of_decide_eq_true Z10x0; obtain ⟨ad258, e258, hx258_0, hx258_1⟩ := at_T70 HR0.out (ji9) p258 q258; obtain rfl : ad252 = ad258 := (by injection e258); replace p258 := eq_true p258; replace q258 := eq_true q258))
           repeat (go_quiet (first | (go_at_call 42; (with_reducible refine (spec_l1In.calls ((rd_T70 l0 x3_1).f0) 0 9999 true _ A4.out).mono ?_); rintro e w' ⟨rfl, ⟨nd, rfl⟩⟩; (try first | exact ⟨rfl, _, World.drewN_drewN _ _ _⟩ | exact ⟨rfl, _, Eq.trans (World.drewN_drewN _ _ _) (congrArg (World.drewN _) (Nat.add_assoc _ _ _))⟩)) | (go_at_call 42; (with_reducible refine (spec_l1In.calls ((rd_T70 l0 x3_1).f1) ((rd_T70 l0 x3_1).f0) 9999 true _ A6.out).mono ?_); rintro e w' ⟨rfl, ⟨nd, rfl⟩⟩; (try first | exact ⟨rfl, _, World.drewN_drewN _ _ _⟩ | exact ⟨rfl, _, Eq.trans (World.drewN_drewN _ _ _) (congrArg (World.drewN _) (Nat.add_assoc _ _ _))⟩))); try go_wp2_with (first | (go_at_call 42; (with_reducible refine (spec_l1In.calls ((rd_T70 l0 x3_1).f0) 0 9999 true _ A4.out).mono ?_); rintro e w' ⟨rfl, ⟨nd, rfl⟩⟩; (try first | exact ⟨rfl, _, World.drewN_drewN _ _ _⟩ | exact ⟨rfl, _, Eq.trans (World.drewN_drewN _ _ _) (congrArg (World.drewN _) (Nat.add_assoc _ _ _))⟩); have p254 : 0 ≤ (x3_1 : Int) := of_decide_eq_true Z10x0; have q254 : x3_1 < (l0.length : Int) := of_decide_eq_true Z10x0; obtain ⟨ad254, e254, hx254_0, hx254_1⟩ := at_T70 HR0.out x3_1 p254 q254; obtain rfl : ad252 = ad254 := (by injection e254); replace p254 := eq_true p254; replace q254 := eq_true q254; have p255 : 0 ≤ (x3_1 : Int) := of_decide_eq_true Z10x0; have q255 : x3_1 < (l0.length : Int) := of_decide_eq_true Z10x0; obtain ⟨ad255, e255, hx255_0, hx255_1⟩ := at_T70 HR0.out x3_1 p255 q255; obtain rfl : ad252 = ad255 := (by injection e255); replace p255 := eq_true p255; replace q255 := eq_true q255) | (go_at_call 42; (with_reducible refine (spec_l1In.calls ((rd_T70 l0 x3_1).f1) ((rd_T70 l0 x3_1).f0) 9999 true _ A6.out).mono ?_); rintro e w' ⟨rfl, ⟨nd, rfl⟩⟩; (try first | exact ⟨rfl, _, World.drewN_drewN _ _ _⟩ | exact ⟨rfl, _, Eq.trans (World.drewN_drewN _ _ _) (congrArg (World.drewN _) (Nat.add_assoc _ _ _))⟩); have p257 : 0 ≤ (x3_1 : Int) := of_decide_eq_true Z10x0; have q257 : x3_1 < (l0.length : Int) := of_decide_eq_true Z10x0; obtain ⟨ad257, e257, hx257_0, hx257_1⟩ := at_T70 HR0.out x3_1 p257 q257; obtain rfl : ad252 = ad257 := (by injection e257); replace p257 := eq_true p257; replace q257 := eq_true q257; have p258 : 0 ≤ ((ji9) : Int) := of_decide_eq_true Z10x0; have q258 : (ji9) < (l0.length : Int) := of_decide_eq_true Z10x0; obtain ⟨ad258, e258, hx258_0, hx258_1⟩ := at_T70 HR0.out (ji9) p258 q258; obtain rfl : ad252 = ad258 := (by injection e258); replace p258 := eq_true p258; replace q258 := eq_true q258)))
           go_roundg k1
           case measure => have := HK1.out; omega
           case rel => exact ⟨(wrap64 (x3_1 + 1)), Z10x4, H', ⟨by have := HK1.out; omega⟩, Z10x3⟩
         ·rw [if_neg c11] at H
          exact absurd H (by simp)
        ·rw [if_neg c10] at H
         exact absurd H (by simp)
       ·rw [if_neg c8] at H
        have c8b0 : decide (0 < x3_1) = false := decide_eq_false c8;clear c8;have H' := Aside0.mk H;clear H;have p252 : 0 ≤ (x3_1 : Int) := of_decide_eq_true Z10x0;have q252 : x3_1 < (l0.length : Int) := of_decide_eq_true Z10x0;obtain ⟨ad252, e252, hx252_0, hx252_1⟩ := at_T70 HR0.out x3_1 p252 q252
        cases e252
        replace p252 := eq_true p252;replace q252 := eq_true q252
        go_wp2_with (first | (go_at_call 42; (with_reducible refine (spec_l1In.calls ((rd_T70 l0 x3_1).f0) 0 9999 true _ A4.out).mono ?_); rintro e w' ⟨rfl, ⟨nd, rfl⟩⟩; (try first | exact ⟨rfl, _, World.drewN_drewN _ _ _⟩ | exact ⟨rfl, _, Eq.trans (World.drewN_drewN _ _ _) (congrArg (World.drewN _) (Nat.add_assoc _ _ _))⟩); have p254 : 0 ≤ (x3_1 : Int) := of_decide_eq_true Z10x0; have q254 : x3_1 < (l0.length : Int) := of_decide_eq_true Z10x0; obtain ⟨ad254, e254, hx254_0, hx254_1⟩ := at_T70 HR0.out x3_1 p254 q254; obtain rfl : ad252 = ad254 := (by injection e254); replace p254 := eq_true p254; replace q254 := eq_true q254; have p255 : 0 ≤ (x3_1 : Int) := of_decide_eq_true Z10x0; have q255 : x3_1 < (l0.length : Int) := of_decide_eq_true Z10x0; obtain ⟨ad255, e255, hx255_0, hx255_1⟩ := at_T70 HR0.out x3_1 p255 q255; obtain rfl : ad252 = ad255 := (by injection e255); replace p255 := eq_true p255; replace q255 := eq_true q255) | (go_at_call 42; (with_reducible refine (spec_l1In.calls ((rd_T70 l0 x3_1).f1) ((rd_T70 l0 x3_1).f0) 9999 true _ A6.out).mono ?_); rintro e w' ⟨rfl, ⟨nd, rfl⟩⟩; (try first | exact ⟨rfl, _, World.drewN_drewN _ _ _⟩ | exact ⟨rfl, _, Eq.trans (World.drewN_drewN _ _ _) (congrArg (World.drewN _) (Nat.add_assoc _ _ _))⟩)))
        repeat (go_quiet (first | (go_at_call 42; (with_reducible refine (spec_l1In.calls ((rd_T70 l0 x3_1).f0) 0 9999 true _ A4.out).mono ?_); rintro e w' ⟨rfl, ⟨nd, rfl⟩⟩; (try first | exact ⟨rfl, _, World.drewN_drewN _ _ _⟩ | exact ⟨rfl, _, Eq.trans (World.drewN_drewN _ _ _) (congrArg (World.drewN _) (Nat.add_assoc _ _ _))⟩)) | (go_at_call 42; (with_reducible refine (spec_l1In.calls ((rd_T70 l0 x3_1).f1) ((rd_T70 l0 x3_1).f0) 9999 true _ A6.out).mono ?_); rintro e w' ⟨rfl, ⟨nd, rfl⟩⟩; (try first | exact ⟨rfl, _, World.drewN_drewN _ _ _⟩ | exact ⟨rfl, _, Eq.trans (World.drewN_drewN _ _ _) (congrArg (World.drewN _) (Nat.add_assoc _ _ _))⟩))); try go_wp2_with (first | (go_at_call 42; (with_reducible refine (spec_l1In.calls ((rd_T70 l0 x3_1).f0) 0 9999 true _ A4.out).mono ?_); rintro e w' ⟨rfl, ⟨nd, rfl⟩⟩; (try first | exact ⟨rfl, _, World.drewN_drewN _ _ _⟩ | exact ⟨rfl, _, Eq.trans (World.drewN_drewN _ _ _) (congrArg (World.drewN _) (Nat.add_assoc _ _ _))⟩); have p254 : 0 ≤ (x3_1 : Int) := of_decide_eq_true Z10x0; have q254 : x3_1 < (l0.length : Int) := of_decide_eq_true Z10x0; obtain ⟨ad254, e254, hx254_0, hx254_1⟩ := at_T70 HR0.out x3_1 p254 q254; obtain rfl : ad252 = ad254 := (by injection e254); replace p254 := eq_true p254; replace q254 := eq_true q254; have p255 : 0 ≤ (x3_1 : Int) := of_decide_eq_true Z10x0; have q255 : x3_1 < (l0.length : Int) := of_decide_eq_true Z10x0; obtain ⟨ad255, e255, hx255_0, hx255_1⟩ := at_T70 HR0.out x3_1 p255 q255; obtain rfl : ad252 = ad255 := (by injection e255); replace p255 := eq_true p255; replace q255 := eq_true q255) | (go_at_call 42; (with_reducible refine (spec_l1In.calls ((rd_T70 l0 x3_1).f1) ((rd_T70 l0 x3_1).f0) 9999 true _ A6.out).mono ?_); rintro e w' ⟨rfl, ⟨nd, rfl⟩⟩; (try first | exact ⟨rfl, _, World.drewN_drewN _ _ _⟩ | exact ⟨rfl, _, Eq.trans (World.drewN_drewN _ _ _) (congrArg (World.drewN _) (Nat.add_assoc _ _ _))⟩))))
        go_roundg k1
        case measure => have := HK1.out; omega
        case rel => exact ⟨(wrap64 (x3_1 + 1)), Z10x4, H', ⟨by have := HK1.out; omega⟩, Z10x3⟩
      ·replace c7 := Bool.eq_false_iff.mpr c7
       subst c7
       have H1 : (some false) = some r := by rw [if_neg (show ¬ (false = true) by decide)] at H; exact H
       clear H;have H := H1;clear H1;obtain rfl := Option.some.inj H;simp only [Option.some.injEq, Prod.mk.injEq] at H;obtain ⟨rfl⟩ := H;have p252 : 0 ≤ (x3_1 : Int) := of_decide_eq_true Z10x0;have q252 : x3_1 < (l0.length : Int) := of_decide_eq_true Z10x0;obtain ⟨ad252, e252, hx252_0, hx252_1⟩ := at_T70 HR0.out x3_1 p252 q252
       cases e252
       replace p252 := eq_true p252;replace q252 := eq_true q252
       go_wp2_with (first | (go_at_call 42; (with_reducible refine (spec_l1In.calls ((rd_T70 l0 x3_1).f0) 0 9999 true _ A4.out).mono ?_); rintro e w' ⟨rfl, ⟨nd, rfl⟩⟩; (try first | exact ⟨rfl, _, World.drewN_drewN _ _ _⟩ | exact ⟨rfl, _, Eq.trans (World.drewN_drewN _ _ _) (congrArg (World.drewN _) (Nat.add_assoc _ _ _))⟩); have p254 : 0 ≤ (x3_1 : Int) := of_decide_eq_true Z10x0; have q254 : x3_1 < (l0.length : Int) := of_decide_eq_true Z10x0; obtain ⟨ad254, e254, hx254_0, hx254_1⟩ := at_T70 HR0.out x3_1 p254 q254; obtain rfl : ad252 = ad254 := (by injection e254); replace p254 := eq_true p254; replace q254 := eq_true q254; have p255 : 0 ≤ (x3_1 : Int) := of_decide_eq_true Z10x0; have q255 : x3_1 < (l0.length : Int) := of_decide_eq_true Z10x0; obtain ⟨ad255, e255, hx255_0, hx255_1⟩ := at_T70 HR0.out x3_1 p255 q255; obtain rfl : ad252 = ad255 := (by injection e255); replace p255 := eq_true p255; replace q255 := eq_true q255) | (go_at_call 42; (with_reducible refine (spec_l1In.calls ((rd_T70 l0 x3_1).f1) ((rd_T70 l0 x3_1).f0) 9999 false _ A6.out).mono ?_); rintro e w' ⟨rfl, ⟨nd, rfl⟩⟩; (try first | exact ⟨rfl, _, World.drewN_drewN _ _ _⟩ | exact ⟨rfl, _, Eq.trans (World.drewN_drewN _ _ _) (congrArg (World.drewN _) (Nat.add_assoc _ _ _))⟩)))
       repeat (go_quiet (first | (go_at_call 42; (with_reducible refine (spec_l1In.calls ((rd_T70 l0 x3_1).f0) 0 9999 true _ A4.out).mono ?_); rintro e w' ⟨rfl, ⟨nd, rfl⟩⟩; (try first | exact ⟨rfl, _, World.drewN_drewN _ _ _⟩ | exact ⟨rfl, _, Eq.trans (World.drewN_drewN _ _ _) (congrArg (World.drewN _) (Nat.add_assoc _ _ _))⟩)) | (go_at_call 42; (with_reducible refine (spec_l1In.calls ((rd_T70 l0 x3_1).f1) ((rd_T70 l0 x3_1).f0) 9999 false _ A6.out).mono ?_); rintro e w' ⟨rfl, ⟨nd, rfl⟩⟩; (try first | exact ⟨rfl, _, World.drewN_drewN _ _ _⟩ | exact ⟨rfl, _, Eq.trans (World.drewN_drewN _ _ _) (congrArg (World.drewN _) (Nat.add_assoc _ _ _))⟩))); try go_wp2_with (first | (go_at_call 42; (with_reducible refine (spec_l1In.calls ((rd_T70 l0 x3_1).f0) 0 9999 true _ A4.out).mono ?_); rintro e w' ⟨rfl, ⟨nd, rfl⟩⟩; (try first | exact ⟨rfl, _, World.drewN_drewN _ _ _⟩ | exact ⟨rfl, _, Eq.trans (World.drewN_drewN _ _ _) (congrArg (World.drewN _) (Nat.add_assoc _ _ _))⟩); have p254 : 0 ≤ (x3_1 : Int) := of_decide_eq_true Z10x0; have q254 : x3_1 < (l0.length : Int) := of_decide_eq_true Z10x0; obtain ⟨ad254, e254, hx254_0, hx254_1⟩ := at_T70 HR0.out x3_1 p254 q254; obtain rfl : ad252 = ad254 := (by injection e254); replace p254 := eq_true p254; replace q254 := eq_true q254; have p255 : 0 ≤ (x3_1 : Int) := of_decide_eq_true Z10x0; have q255 : x3_1 < (l0.length : Int) := of_decide_eq_true Z10x0; obtain ⟨ad255, e255, hx255_0, hx255_1⟩ := at_T70 HR0.out x3_1 p255 q255; obtain rfl : ad252 = ad255 := (by injection e255); replace p255 := eq_true p255; replace q255 := eq_true q255) | (go_at_call 42; (with_reducible refine (spec_l1In.calls ((rd_T70 l0 x3_1).f1) ((rd_T70 l0 x3_1).f0) 9999 false _ A6.out).mono ?_); rintro e w' ⟨rfl, ⟨nd, rfl⟩⟩; (try first | exact ⟨rfl, _, World.drewN_drewN _ _ _⟩ | exact ⟨rfl, _, Eq.trans (World.drewN_drewN _ _ _) (congrArg (World.drewN _) (Nat.add_assoc _ _ _))⟩))))
       go_ret
       exact ⟨Z10x4, Z10x3⟩
     ·replace c5 := Bool.eq_false_iff.mpr c5
      subst c5
      have H1 : (some false) = some r := by rw [if_neg (show ¬ (false = true) by decide)] at H; exact H
      clear H;have H := H1;clear H1;obtain rfl := Option.some.inj H;simp only [Option.some.injEq, Prod.mk.injEq] at H;obtain ⟨rfl⟩ := H;have p252 : 0 ≤ (x3_1 : Int) := of_decide_eq_true Z10x0;have q252 : x3_1 < (l0.length : Int) := of_decide_eq_true Z10x0;obtain ⟨ad252, e252, hx252_0, hx252_1⟩ := at_T70 HR0.out x3_1 p252 q252
      cases e252
      replace p252 := eq_true p252;replace q252 := eq_true q252
      go_wp2_with (first | (go_at_call 42; (with_reducible refine (spec_l1In.calls ((rd_T70 l0 x3_1).f0) 0 9999 false _ A4.out).mono ?_); rintro e w' ⟨rfl, ⟨nd, rfl⟩⟩; (try first | exact ⟨rfl, _, World.drewN_drewN _ _ _⟩ | exact ⟨rfl, _, Eq.trans (World.drewN_drewN _ _ _) (congrArg (World.drewN _) (Nat.add_assoc _ _ _))⟩)))
      repeat (go_quiet (first | (go_at_call 42; (with_reducible refine (spec_l1In.calls ((rd_T70 l0 x3_1).f0) 0 9999 false _ A4.out).mono ?_); rintro e w' ⟨rfl, ⟨nd, rfl⟩⟩; (try first | exact ⟨rfl, _, World.drewN_drewN _ _ _⟩ | exact ⟨rfl, _, Eq.trans (World.drewN_drewN _ _ _) (congrArg (World.drewN _) (Nat.add_assoc _ _ _))⟩))); try go_wp2_with (first | (go_at_call 42; (with_reducible refine (spec_l1In.calls ((rd_T70 l0 x3_1).f0) 0 9999 false _ A4.out).mono ?_); rintro e w' ⟨rfl, ⟨nd, rfl⟩⟩; (try first | exact ⟨rfl, _, World.drewN_drewN _ _ _⟩ | exact ⟨rfl, _, Eq.trans (World.drewN_drewN _ _ _) (congrArg (World.drewN _) (Nat.add_assoc _ _ _))⟩))))
      go_ret
      exact ⟨Z10x4, Z10x3⟩
    ·rw [if_neg c3] at H
     exact absurd H (by simp)
   ·rw [if_neg c2] at H
    have c2b0 : decide (x3_1 < (l0.length : Int)) = false := decide_eq_false c2;clear c2;obtain rfl := Option.some.inj H;simp only [Option.some.injEq, Prod.mk.injEq] at H;obtain ⟨rfl⟩ := H
    go_wp2
    repeat (go_quiet (fail); try go_wp2)
    go_ret
    exact ⟨Z10x4, Z10x3⟩

def spec_EntryOk.f (k : Nat) (a0_0 : Int) (a0_1 : Int) (l0_2 : List (S70)) (a0_3 : Int) (a0_4 : Int) (a0_5 : Int) (a0_6 : Int) (l0_7 : List Int) (l0_8 : List Int) (l0_9 : List (List Int)) : Option (Bool) := (spec_l6Place.f a0_0 a0_1).bind fun t260 => (if t260 = true then (if (l0_2.length : Int) > 0 then ((spec_SetOk.f k l0_2).bind fun t261 => (if t261 = true then ((spec_SketchOk.f k a0_3 a0_4 a0_5 a0_6 l0_7 l0_8 l0_9).bind fun t262 => (some t262)) else (some false))) else (some false)) else (some false))
theorem spec_EntryOk.mono : ∀ a0 a1 a2 a3 a4 a5 a6 a7 a8 a9 k, LeO (spec_EntryOk.f k a0 a1 a2 a3 a4 a5 a6 a7 a8 a9) (spec_EntryOk.f (k + 1) a0 a1 a2 a3 a4 a5 a6 a7 a8 a9) := by
 intro a0 a1 a2 a3 a4 a5 a6 a7 a8 a9 k
 unfold spec_EntryOk.f
 repeat' first
   | (with_reducible exact spec_SetOk.mono _ _)
   | (with_reducible exact spec_SketchOk.mono _ _ _ _ _ _ _ _)
   | (with_reducible exact LeO.refl _)
   | (with_reducible exact LeO.none _)
   | (with_reducible refine LeO.ite ?_ ?_)
   | (with_reducible refine LeO.bind ?_ (fun _ => ?_))
   | exact spec_SetOk.mono _ _
   | exact spec_SketchOk.mono _ _ _ _ _ _ _ _
   | exact LeO.none _
   | refine LeO.ite ?_ ?_
   | refine LeO.bind ?_ (fun _ => ?_)
set_option maxHeartbeats 8000000 in
set_option maxRecDepth 100000 in
theorem spec_EntryOk.calls (k : Nat) (a0_0 : Int) (a0_1 : Int) (A0_2 : Option Addr) (c0_2 : Nat) (l0_2 : List (S70)) (a0_3 : Int) (a0_4 : Int) (a0_5 : Int) (a0_6 : Int) (A0_7 : Option Addr) (c0_7 : Nat) (l0_7 : List Int) (A0_8 : Option Addr) (c0_8 : Nat) (l0_8 : List Int) (A0_9 : Option Addr) (c0_9 : Nat) (l0_9 : List (List Int)) (r : Bool) (w : World) (hr0_2 : Kd.C k70 w A0_2 l0_2.length l0_2) (hc0_2 : l0_2.length ≤ c0_2) (hr0_7 : Kd.C (Kd.int .i64) w A0_7 l0_7.length l0_7) (hc0_7 : l0_7.length ≤ c0_7) (hr0_8 : Kd.C (Kd.int .i64) w A0_8 l0_8.length l0_8) (hc0_8 : l0_8.length ≤ c0_8) (hr0_9 : Kd.C (Kd.slice 3 (Kd.int .i64)) w A0_9 l0_9.length l0_9) (hc0_9 : l0_9.length ≤ c0_9) (h : spec_EntryOk.f k a0_0 a0_1 l0_2 a0_3 a0_4 a0_5 a0_6 l0_7 l0_8 l0_9 = some r) :
  Calls Try.prog 61 #[.agg #[.int .i64 a0_0, .int .i64 a0_1, .slice A0_2 l0_2.length c0_2, .int .i64 a0_3, .int .i64 a0_4, .int .i64 a0_5, .int .i64 a0_6, .slice A0_7 l0_7.length c0_7, .slice A0_8 l0_8.length c0_8, .slice A0_9 l0_9.length c0_9]] w fun e w' => e = .returned (.bool r) ∧ Below w.heap.size w w' := by
 have hu34 := Try.underlying34
 have hu27 := Try.underlying27
 have HR0_2 := Aside0.mk hr0_2
 have HC0_2 := Aside0.mk hc0_2
 clear hr0_2 hc0_2
 have HR0_7 := Aside0.mk hr0_7
 have HC0_7 := Aside0.mk hc0_7
 clear hr0_7 hc0_7
 have HR0_8 := Aside0.mk hr0_8
 have HC0_8 := Aside0.mk hc0_8
 clear hr0_8 hc0_8
 have HR0_9 := Aside0.mk hr0_9
 have HC0_9 := Aside0.mk hc0_9
 clear hr0_9 hc0_9
 have HB := Aside0.mk (Below.refl w.heap.size w)
 have H : ((spec_l6Place.f a0_0 a0_1).bind fun t260 => (if t260 = true then (if (l0_2.length : Int) > 0 then ((spec_SetOk.f k l0_2).bind fun t261 => (if t261 = true then ((spec_SketchOk.f k a0_3 a0_4 a0_5 a0_6 l0_7 l0_8 l0_9).bind fun t262 => (some t262)) else (some false))) else (some false)) else (some false))) = some r := h
 clear h
 replace H := Option.bind_eq_some_iff.mp H
 obtain ⟨t260, A20, H⟩ := H
 replace H : (if t260 = true then (if (l0_2.length : Int) > 0 then ((spec_SetOk.f k l0_2).bind fun t261 => (if t261 = true then ((spec_SketchOk.f k a0_3 a0_4 a0_5 a0_6 l0_7 l0_8 l0_9).bind fun t262 => (some t262)) else (some false))) else (some false)) else (some false)) = some r := H
 have A2 := Aside0.mk A20
 clear A20
 by_cases c3 : t260 = true
 ·subst c3
  have H1 : (if (l0_2.length : Int) > 0 then ((spec_SetOk.f k l0_2).bind fun t261 => (if t261 = true then ((spec_SketchOk.f k a0_3 a0_4 a0_5 a0_6 l0_7 l0_8 l0_9).bind fun t262 => (some t262)) else (some false))) else (some false)) = some r := by rw [if_pos rfl] at H; exact H
  clear H
  have H := H1
  clear H1
  by_cases c4 : (l0_2.length : Int) > 0
  ·rw [if_pos c4] at H
   have c4b0 : decide (0 < (l0_2.length : Int)) = true := decide_eq_true c4
   (try (have c4b1 : decide (0 < l0_2.length) = true := decide_eq_true (by omega)))
   (try (have c4b2 : (0 < l0_2.length) = True := eq_true (by omega)))
   have c4b3 : decide (0 < l0_2.length) = true := decide_eq_true (by omega)
   clear c4
   replace H := Option.bind_eq_some_iff.mp H
   obtain ⟨t261, A50, H⟩ := H
   replace H : (if t261 = true then ((spec_SketchOk.f k a0_3 a0_4 a0_5 a0_6 l0_7 l0_8 l0_9).bind fun t262 => (some t262)) else (some false)) = some r := H
   have A5 := Aside0.mk A50
   clear A50
   by_cases c6 : t261 = true
   ·subst c6
    have H1 : ((spec_SketchOk.f k a0_3 a0_4 a0_5 a0_6 l0_7 l0_8 l0_9).bind fun t262 => (some t262)) = some r := by rw [if_pos rfl] at H; exact H
    clear H;have H := H1;clear H1;replace H := Option.bind_eq_some_iff.mp H;obtain ⟨t262, A70, H⟩ := H;replace H : (some t262) = some r := H;have A7 := Aside0.mk A70;clear A70;obtain rfl := Option.some.inj H;simp only [Option.some.injEq, Prod.mk.injEq] at H;obtain ⟨rfl⟩ := H
    go_enter Try.func61, Try.ntmps61
    go_wp2_with (first | ((with_reducible refine gate_dst (N := 1) rfl ?_); (try (refine gate_guard (by rfl) ?_; dsimp only)); refine box_event ?hg (N := 1) ?hd (cs := #[.int .i64 a0_0, .int .i64 a0_1, .slice A0_2 l0_2.length c0_2, .int .i64 a0_3, .int .i64 a0_4, .int .i64 a0_5, .int .i64 a0_6, .slice A0_7 l0_7.length c0_7, .slice A0_8 l0_8.length c0_8, .slice A0_9 l0_9.length c0_9]) (t := 34) ?hr ?_; (case hd => rfl); (case hg => rfl); (case hr => first | (go_simp; done) | (go_simp; rfl)); intro gb259 hg w8 hbox hb; have n0_ := Aside0.mk (below_step Z10x1 hb); have n1_ := Aside0.mk (hbox); have n2_ := Aside0.mk ((by rw [hg]; exact (below_size Z10x1) : w.heap.size ≤ gb259)); have n3_ := Aside0.mk ((by rw [hg]; exact (below_size Z10x1) : w.heap.size ≤ gb259)); clear HB; have HB := n0_; have BK259 := n1_; have GW259 := n2_; have GE259 := n3_; clear n0_ n1_ n2_ n3_; clear hb hbox hg; obtain ⟨hcz9_0, hcz9_1, hcz9_2, hcz9_3, hcz9_4, hcz9_5, hcz9_6, hcz9_7, hcz9_8, hcz9_9⟩ := cz10 BK259.out; obtain ⟨hfz9_0, hfz9_1, hfz9_2, hfz9_3, hfz9_4, hfz9_5, hfz9_6, hfz9_7, hfz9_8, hfz9_9⟩ := fz10 BK259.out) | ((with_reducible refine gate_callee (f := 72) rfl ?_); refine goesL_ (some 7) rfl rfl Try.func72 (by kernel_rfl) rfl #[.int .i64 a0_0, .int .i64 a0_1] rfl Z10x6 ?_; (with_reducible refine (spec_l6Place.calls a0_0 a0_1 true _ A2.out).mono ?_); rintro e w' ⟨rfl, ⟨nd, rfl⟩⟩; refine ⟨_, rfl, ?_⟩) | (go_at_call 92; (with_reducible refine (spec_SetOk.calls k _ _ l0_2 true _ ?side1 ?side2 A5.out).mono ?_); (case side1 => repeat (first | exact (Kd.C_below HR0_2.out Z10x2) | (with_reducible refine Kd.C_alloc ?_ _) | (with_reducible refine Kd.C_drewN ?_ _) | (with_reducible refine Kd.C_drew ?_))); (case side2 => exact HC0_2.out); rintro e w' ⟨rfl, ⟨nd, rfl⟩⟩) | (go_at_call 73; (with_reducible refine (spec_SketchOk.calls k a0_3 a0_4 a0_5 a0_6 _ _ l0_7 _ _ l0_8 _ _ l0_9 t262 _ ?side1 ?side2 ?side3 ?side4 ?side5 ?side6 A7.out).mono ?_); (case side1 => repeat (first | exact (Kd.C_below HR0_7.out Z10x2) | (with_reducible refine Kd.C_alloc ?_ _) | (with_reducible refine Kd.C_drewN ?_ _) | (with_reducible refine Kd.C_drew ?_))); (case side2 => exact HC0_7.out); (case side3 => repeat (first | exact (Kd.C_below HR0_8.out Z10x2) | (with_reducible refine Kd.C_alloc ?_ _) | (with_reducible refine Kd.C_drewN ?_ _) | (with_reducible refine Kd.C_drew ?_))); (case side4 => exact HC0_8.out); (case side5 => repeat (first | exact (Kd.C_below HR0_9.out Z10x2) | (with_reducible refine Kd.C_alloc ?_ _) | (with_reducible refine Kd.C_drewN ?_ _) | (with_reducible refine Kd.C_drew ?_))); (case side6 => exact HC0_9.out); rintro e w10 ⟨rfl, hb⟩; have n0_ := Aside0.mk (blk_below (g := gb259) (o := .cells #[.int .i64 a0_0, .int .i64 a0_1, .slice A0_2 l0_2.length c0_2, .int .i64 a0_3, .int .i64 a0_4, .int .i64 a0_5, .int .i64 a0_6, .slice A0_7 l0_7.length c0_7, .slice A0_8 l0_8.length c0_8, .slice A0_9 l0_9.length c0_9] 34 (0, 0)) (by (with_reducible repeat (first | refine blk_drewN ?_ _ | refine blk_drew ?_ | refine blk_alloc ?_ _)); exact BK259.out) hb); have n1_ := Aside0.mk (below_step Z10x2 hb); clear BK259; clear HB; have BK259 := n0_; have HB := n1_; clear n0_ n1_; (try clear hb); (try clear hb2); (try clear hk); (try clear hi)))
    go_ret
    exact ⟨Z10x7, Z10x2⟩
   ·replace c6 := Bool.eq_false_iff.mpr c6
    subst c6
    have H1 : (some false) = some r := by rw [if_neg (show ¬ (false = true) by decide)] at H; exact H
    clear H;have H := H1;clear H1;obtain rfl := Option.some.inj H;simp only [Option.some.injEq, Prod.mk.injEq] at H;obtain ⟨rfl⟩ := H
    go_enter Try.func61, Try.ntmps61
    go_wp2_with (first | ((with_reducible refine gate_dst (N := 1) rfl ?_); (try (refine gate_guard (by rfl) ?_; dsimp only)); refine box_event ?hg (N := 1) ?hd (cs := #[.int .i64 a0_0, .int .i64 a0_1, .slice A0_2 l0_2.length c0_2, .int .i64 a0_3, .int .i64 a0_4, .int .i64 a0_5, .int .i64 a0_6, .slice A0_7 l0_7.length c0_7, .slice A0_8 l0_8.length c0_8, .slice A0_9 l0_9.length c0_9]) (t := 34) ?hr ?_; (case hd => rfl); (case hg => rfl); (case hr => first | (go_simp; done) | (go_simp; rfl)); intro gb259 hg w11 hbox hb; have n0_ := Aside0.mk (below_step Z10x1 hb); have n1_ := Aside0.mk (hbox); have n2_ := Aside0.mk ((by rw [hg]; exact (below_size Z10x1) : w.heap.size ≤ gb259)); have n3_ := Aside0.mk ((by rw [hg]; exact (below_size Z10x1) : w.heap.size ≤ gb259)); clear HB; have HB := n0_; have BK259 := n1_; have GW259 := n2_; have GE259 := n3_; clear n0_ n1_ n2_ n3_; clear hb hbox hg; obtain ⟨hcz12_0, hcz12_1, hcz12_2, hcz12_3, hcz12_4, hcz12_5, hcz12_6, hcz12_7, hcz12_8, hcz12_9⟩ := cz10 BK259.out; obtain ⟨hfz12_0, hfz12_1, hfz12_2, hfz12_3, hfz12_4, hfz12_5, hfz12_6, hfz12_7, hfz12_8, hfz12_9⟩ := fz10 BK259.out) | ((with_reducible refine gate_callee (f := 72) rfl ?_); refine goesL_ (some 7) rfl rfl Try.func72 (by kernel_rfl) rfl #[.int .i64 a0_0, .int .i64 a0_1] rfl Z10x6 ?_; (with_reducible refine (spec_l6Place.calls a0_0 a0_1 true _ A2.out).mono ?_); rintro e w' ⟨rfl, ⟨nd, rfl⟩⟩; refine ⟨_, rfl, ?_⟩) | (go_at_call 92; (with_reducible refine (spec_SetOk.calls k _ _ l0_2 false _ ?side1 ?side2 A5.out).mono ?_); (case side1 => repeat (first | exact (Kd.C_below HR0_2.out Z10x2) | (with_reducible refine Kd.C_alloc ?_ _) | (with_reducible refine Kd.C_drewN ?_ _) | (with_reducible refine Kd.C_drew ?_))); (case side2 => exact HC0_2.out); rintro e w' ⟨rfl, ⟨nd, rfl⟩⟩))
    go_ret
    exact ⟨Z10x7, Z10x2⟩
  ·rw [if_neg c4] at H
   have c4b0 : decide (0 < (l0_2.length : Int)) = false := decide_eq_false c4
   (try (have c4b1 : decide (0 < l0_2.length) = false := decide_eq_false (by omega)))
   (try (have c4b2 : (0 < l0_2.length) = False := eq_false (by omega)))
   have c4b3 : decide (0 < l0_2.length) = false := decide_eq_false (by omega)
   clear c4
   obtain rfl := Option.some.inj H
   simp only [Option.some.injEq, Prod.mk.injEq] at H
   obtain ⟨rfl⟩ := H
   go_enter Try.func61, Try.ntmps61
   go_wp2_with (first | ((with_reducible refine gate_dst (N := 1) rfl ?_); (try (refine gate_guard (by rfl) ?_; dsimp only)); refine box_event ?hg (N := 1) ?hd (cs := #[.int .i64 a0_0, .int .i64 a0_1, .slice A0_2 l0_2.length c0_2, .int .i64 a0_3, .int .i64 a0_4, .int .i64 a0_5, .int .i64 a0_6, .slice A0_7 l0_7.length c0_7, .slice A0_8 l0_8.length c0_8, .slice A0_9 l0_9.length c0_9]) (t := 34) ?hr ?_; (case hd => rfl); (case hg => rfl); (case hr => first | (go_simp; done) | (go_simp; rfl)); intro gb259 hg w13 hbox hb; have n0_ := Aside0.mk (below_step Z10x1 hb); have n1_ := Aside0.mk (hbox); have n2_ := Aside0.mk ((by rw [hg]; exact (below_size Z10x1) : w.heap.size ≤ gb259)); have n3_ := Aside0.mk ((by rw [hg]; exact (below_size Z10x1) : w.heap.size ≤ gb259)); clear HB; have HB := n0_; have BK259 := n1_; have GW259 := n2_; have GE259 := n3_; clear n0_ n1_ n2_ n3_; clear hb hbox hg; obtain ⟨hcz14_0, hcz14_1, hcz14_2, hcz14_3, hcz14_4, hcz14_5, hcz14_6, hcz14_7, hcz14_8, hcz14_9⟩ := cz10 BK259.out; obtain ⟨hfz14_0, hfz14_1, hfz14_2, hfz14_3, hfz14_4, hfz14_5, hfz14_6, hfz14_7, hfz14_8, hfz14_9⟩ := fz10 BK259.out) | ((with_reducible refine gate_callee (f := 72) rfl ?_); refine goesL_ (some 7) rfl rfl Try.func72 (by kernel_rfl) rfl #[.int .i64 a0_0, .int .i64 a0_1] rfl Z10x6 ?_; (with_reducible refine (spec_l6Place.calls a0_0 a0_1 true _ A2.out).mono ?_); rintro e w' ⟨rfl, ⟨nd, rfl⟩⟩; refine ⟨_, rfl, ?_⟩))
   go_ret
   exact ⟨Z10x7, Z10x2⟩
 ·replace c3 := Bool.eq_false_iff.mpr c3
  subst c3
  have H1 : (some false) = some r := by rw [if_neg (show ¬ (false = true) by decide)] at H; exact H
  clear H
  have H := H1
  clear H1
  obtain rfl := Option.some.inj H
  simp only [Option.some.injEq, Prod.mk.injEq] at H
  obtain ⟨rfl⟩ := H
  go_enter Try.func61, Try.ntmps61
  go_wp2_with (first | ((with_reducible refine gate_dst (N := 1) rfl ?_); (try (refine gate_guard (by rfl) ?_; dsimp only)); refine box_event ?hg (N := 1) ?hd (cs := #[.int .i64 a0_0, .int .i64 a0_1, .slice A0_2 l0_2.length c0_2, .int .i64 a0_3, .int .i64 a0_4, .int .i64 a0_5, .int .i64 a0_6, .slice A0_7 l0_7.length c0_7, .slice A0_8 l0_8.length c0_8, .slice A0_9 l0_9.length c0_9]) (t := 34) ?hr ?_; (case hd => rfl); (case hg => rfl); (case hr => first | (go_simp; done) | (go_simp; rfl)); intro gb259 hg w15 hbox hb; have n0_ := Aside0.mk (below_step Z10x1 hb); have n1_ := Aside0.mk (hbox); have n2_ := Aside0.mk ((by rw [hg]; exact (below_size Z10x1) : w.heap.size ≤ gb259)); have n3_ := Aside0.mk ((by rw [hg]; exact (below_size Z10x1) : w.heap.size ≤ gb259)); clear HB; have HB := n0_; have BK259 := n1_; have GW259 := n2_; have GE259 := n3_; clear n0_ n1_ n2_ n3_; clear hb hbox hg; obtain ⟨hcz16_0, hcz16_1, hcz16_2, hcz16_3, hcz16_4, hcz16_5, hcz16_6, hcz16_7, hcz16_8, hcz16_9⟩ := cz10 BK259.out; obtain ⟨hfz16_0, hfz16_1, hfz16_2, hfz16_3, hfz16_4, hfz16_5, hfz16_6, hfz16_7, hfz16_8, hfz16_9⟩ := fz10 BK259.out) | ((with_reducible refine gate_callee (f := 72) rfl ?_); refine goesL_ (some 7) rfl rfl Try.func72 (by kernel_rfl) rfl #[.int .i64 a0_0, .int .i64 a0_1] rfl Z10x6 ?_; (with_reducible refine (spec_l6Place.calls a0_0 a0_1 false _ A2.out).mono ?_); rintro e w' ⟨rfl, ⟨nd, rfl⟩⟩; refine ⟨_, rfl, ?_⟩))
  go_ret
  exact ⟨Z10x7, Z10x2⟩

mutual
def spec_SetApart.j0 : Nat → List (S70) → List (S70) → Bool → Option (Bool)
 | 0, _, _, _ => none
 | k + 1, x0, x1, x14 => if x14 = true then (some false) else (spec_SetApart.l0 k x0 x1 0)
def spec_SetApart.l0 : Nat → List (S70) → List (S70) → Int → Option (Bool)
 | 0, _, _, _ => none
 | k + 1, x0, x1, x5 => if x5 < (x0.length : Int) then (spec_SetApart.l1 k x0 x1 x5 0) else (some true)
def spec_SetApart.l1 : Nat → List (S70) → List (S70) → Int → Int → Option (Bool)
 | 0, _, _, _, _ => none
 | k + 1, x0, x1, x5, x6 => if x6 < (x1.length : Int) then (if 0 ≤ x5 then (if x5 < (x0.length : Int) then (if 0 ≤ x6 then (if ((rd_T70 x0 x5).f0) ≤ ((rd_T70 x1 x6).f1) then (if ((rd_T70 x1 x6).f0) ≤ ((rd_T70 x0 x5).f1) then (some false) else (spec_SetApart.l1 k x0 x1 x5 (wrap64 (x6 + 1)))) else (spec_SetApart.l1 k x0 x1 x5 (wrap64 (x6 + 1)))) else (none)) else (none)) else (none)) else (spec_SetApart.l0 k x0 x1 (wrap64 (x5 + 1)))
end
def spec_SetApart.f (k : Nat) (l0 : List (S70)) (l1 : List (S70)) : Option (Bool) := (spec_SetOk.f k l0).bind fun t263 => (if t263 = true then ((spec_SetOk.f k l1).bind fun t264 => (spec_SetApart.j0 k l0 l1 (!t264))) else (spec_SetApart.j0 k l0 l1 true))
theorem spec_SetApart.mono_l : ∀ k, (∀ y0 y1 y2, LeO (spec_SetApart.j0 k y0 y1 y2) (spec_SetApart.j0 (k + 1) y0 y1 y2)) ∧ (∀ y0 y1 y2, LeO (spec_SetApart.l0 k y0 y1 y2) (spec_SetApart.l0 (k + 1) y0 y1 y2)) ∧ (∀ y0 y1 y2 y3, LeO (spec_SetApart.l1 k y0 y1 y2 y3) (spec_SetApart.l1 (k + 1) y0 y1 y2 y3))
 | 0 => ⟨fun _ _ _ r h => by simp [spec_SetApart.j0] at h, fun _ _ _ r h => by simp [spec_SetApart.l0] at h, fun _ _ _ _ r h => by simp [spec_SetApart.l1] at h⟩
 | k + 1 => by
  obtain ⟨ih0, ih1, ih2⟩ := spec_SetApart.mono_l k
  refine ⟨?_, ?_, ?_⟩
  ·intro y0 y1 y2
   unfold spec_SetApart.j0
   repeat' first
   | (with_reducible exact ih0 _ _ _)
   | (with_reducible exact ih1 _ _ _)
   | (with_reducible exact ih2 _ _ _ _)
   | (with_reducible exact spec_SetOk.mono _ _)
   | (with_reducible exact LeO.refl _)
   | (with_reducible exact LeO.none _)
   | (with_reducible refine LeO.ite ?_ ?_)
   | (with_reducible refine LeO.bind ?_ (fun _ => ?_))
   | exact ih0 _ _ _
   | exact ih1 _ _ _
   | exact ih2 _ _ _ _
   | exact spec_SetOk.mono _ _
   | exact LeO.none _
   | refine LeO.ite ?_ ?_
   | refine LeO.bind ?_ (fun _ => ?_)
  ·intro y0 y1 y2
   unfold spec_SetApart.l0
   repeat' first
   | (with_reducible exact ih0 _ _ _)
   | (with_reducible exact ih1 _ _ _)
   | (with_reducible exact ih2 _ _ _ _)
   | (with_reducible exact spec_SetOk.mono _ _)
   | (with_reducible exact LeO.refl _)
   | (with_reducible exact LeO.none _)
   | (with_reducible refine LeO.ite ?_ ?_)
   | (with_reducible refine LeO.bind ?_ (fun _ => ?_))
   | exact ih0 _ _ _
   | exact ih1 _ _ _
   | exact ih2 _ _ _ _
   | exact spec_SetOk.mono _ _
   | exact LeO.none _
   | refine LeO.ite ?_ ?_
   | refine LeO.bind ?_ (fun _ => ?_)
  ·intro y0 y1 y2 y3
   unfold spec_SetApart.l1
   repeat' first
   | (with_reducible exact ih0 _ _ _)
   | (with_reducible exact ih1 _ _ _)
   | (with_reducible exact ih2 _ _ _ _)
   | (with_reducible exact spec_SetOk.mono _ _)
   | (with_reducible exact LeO.refl _)
   | (with_reducible exact LeO.none _)
   | (with_reducible refine LeO.ite ?_ ?_)
   | (with_reducible refine LeO.bind ?_ (fun _ => ?_))
   | exact ih0 _ _ _
   | exact ih1 _ _ _
   | exact ih2 _ _ _ _
   | exact spec_SetOk.mono _ _
   | exact LeO.none _
   | refine LeO.ite ?_ ?_
   | refine LeO.bind ?_ (fun _ => ?_)
theorem spec_SetApart.mono : ∀ a0 a1 k, LeO (spec_SetApart.f k a0 a1) (spec_SetApart.f (k + 1) a0 a1) := by
 intro a0 a1 k
 obtain ⟨ih0, ih1, ih2⟩ := spec_SetApart.mono_l k
 unfold spec_SetApart.f
 repeat' first
   | (with_reducible exact ih0 _ _ _)
   | (with_reducible exact ih1 _ _ _)
   | (with_reducible exact ih2 _ _ _ _)
   | (with_reducible exact spec_SetOk.mono _ _)
   | (with_reducible exact LeO.refl _)
   | (with_reducible exact LeO.none _)
   | (with_reducible refine LeO.ite ?_ ?_)
   | (with_reducible refine LeO.bind ?_ (fun _ => ?_))
   | exact ih0 _ _ _
   | exact ih1 _ _ _
   | exact ih2 _ _ _ _
   | exact spec_SetOk.mono _ _
   | exact LeO.none _
   | refine LeO.ite ?_ ?_
   | refine LeO.bind ?_ (fun _ => ?_)
set_option maxHeartbeats 8000000 in
set_option maxRecDepth 100000 in
theorem spec_SetApart.calls (k : Nat) (A0 : Option Addr) (c0 : Nat) (l0 : List (S70)) (A1 : Option Addr) (c1 : Nat) (l1 : List (S70)) (r : Bool) (w : World) (hr0 : Kd.C k70 w A0 l0.length l0) (hc0 : l0.length ≤ c0) (hr1 : Kd.C k70 w A1 l1.length l1) (hc1 : l1.length ≤ c1) (h : spec_SetApart.f k l0 l1 = some r) :
  Calls Try.prog 62 #[.slice A0 l0.length c0, .slice A1 l1.length c1] w fun e w' => e = .returned (.bool r) ∧ Drawn0 w w' := by
 have HR0 := Aside0.mk hr0
 have HC0 := Aside0.mk hc0
 clear hr0 hc0
 have HR1 := Aside0.mk hr1
 have HC1 := Aside0.mk hc1
 clear hr1 hc1
 have H : ((spec_SetOk.f k l0).bind fun t263 => (if t263 = true then ((spec_SetOk.f k l1).bind fun t264 => (spec_SetApart.j0 k l0 l1 (!t264))) else (spec_SetApart.j0 k l0 l1 true))) = some r := h
 clear h
 have HC3 := Aside0.mk H
 clear H
 go_enter Try.func62, Try.ntmps62
 go_upto_region 1 with (fail)
 repeat (go_quiet (fail); go_upto_region 1 with (fail))
 go_cut [14] (fun v14 wc => ∃ (kq : Nat) (x14_2 : Bool), v14 = .bool x14_2 ∧ Aside0 (spec_SetApart.j0 kq l0 l1 x14_2 = some r) ∧ Aside0 (kq ≤ k) ∧ Drawn0 w wc)
 case first =>
  have H := HC3.out
  clear HC3
  replace H := Option.bind_eq_some_iff.mp H
  obtain ⟨t263, A40, H⟩ := H
  replace H : (if t263 = true then ((spec_SetOk.f k l1).bind fun t264 => (spec_SetApart.j0 k l0 l1 (!t264))) else (spec_SetApart.j0 k l0 l1 true)) = some r := H
  have A4 := Aside0.mk A40
  clear A40
  by_cases c5 : t263 = true
  ·subst c5
   have H1 : ((spec_SetOk.f k l1).bind fun t264 => (spec_SetApart.j0 k l0 l1 (!t264))) = some r := by rw [if_pos rfl] at H; exact H
   clear H
   have H := H1
   clear H1
   replace H := Option.bind_eq_some_iff.mp H
   obtain ⟨t264, A60, H⟩ := H
   replace H : (spec_SetApart.j0 k l0 l1 (!t264)) = some r := H
   have A6 := Aside0.mk A60
   clear A60
   have H' := Aside0.mk H
   clear H
   go_wp2_with (first | (go_at_call 92; (with_reducible refine (spec_SetOk.calls k _ _ l0 true _ ?side1 ?side2 A4.out).mono ?_); (case side1 => exact Z10x5); (case side2 => exact HC0.out); rintro e w' ⟨rfl, ⟨nd, rfl⟩⟩; (try first | exact ⟨rfl, _, World.drewN_drewN _ _ _⟩ | exact ⟨rfl, _, Eq.trans (World.drewN_drewN _ _ _) (congrArg (World.drewN _) (Nat.add_assoc _ _ _))⟩)) | (go_at_call 92; (with_reducible refine (spec_SetOk.calls k _ _ l1 t264 _ ?side1 ?side2 A6.out).mono ?_); (case side1 => exact Z10x8); (case side2 => exact HC1.out); rintro e w' ⟨rfl, ⟨nd, rfl⟩⟩; (try first | exact ⟨rfl, _, World.drewN_drewN _ _ _⟩ | exact ⟨rfl, _, Eq.trans (World.drewN_drewN _ _ _) (congrArg (World.drewN _) (Nat.add_assoc _ _ _))⟩)))
   repeat (go_quiet (first | (go_at_call 92; (with_reducible refine (spec_SetOk.calls k _ _ l0 true _ ?side1 ?side2 A4.out).mono ?_); (case side1 => exact Z10x5); (case side2 => exact HC0.out); rintro e w' ⟨rfl, ⟨nd, rfl⟩⟩; (try first | exact ⟨rfl, _, World.drewN_drewN _ _ _⟩ | exact ⟨rfl, _, Eq.trans (World.drewN_drewN _ _ _) (congrArg (World.drewN _) (Nat.add_assoc _ _ _))⟩)) | (go_at_call 92; (with_reducible refine (spec_SetOk.calls k _ _ l1 t264 _ ?side1 ?side2 A6.out).mono ?_); (case side1 => exact Z10x8); (case side2 => exact HC1.out); rintro e w' ⟨rfl, ⟨nd, rfl⟩⟩; (try first | exact ⟨rfl, _, World.drewN_drewN _ _ _⟩ | exact ⟨rfl, _, Eq.trans (World.drewN_drewN _ _ _) (congrArg (World.drewN _) (Nat.add_assoc _ _ _))⟩))); try go_wp2_with (first | (go_at_call 92; (with_reducible refine (spec_SetOk.calls k _ _ l0 true _ ?side1 ?side2 A4.out).mono ?_); (case side1 => exact Z10x5); (case side2 => exact HC0.out); rintro e w' ⟨rfl, ⟨nd, rfl⟩⟩; (try first | exact ⟨rfl, _, World.drewN_drewN _ _ _⟩ | exact ⟨rfl, _, Eq.trans (World.drewN_drewN _ _ _) (congrArg (World.drewN _) (Nat.add_assoc _ _ _))⟩)) | (go_at_call 92; (with_reducible refine (spec_SetOk.calls k _ _ l1 t264 _ ?side1 ?side2 A6.out).mono ?_); (case side1 => exact Z10x8); (case side2 => exact HC1.out); rintro e w' ⟨rfl, ⟨nd, rfl⟩⟩; (try first | exact ⟨rfl, _, World.drewN_drewN _ _ _⟩ | exact ⟨rfl, _, Eq.trans (World.drewN_drewN _ _ _) (congrArg (World.drewN _) (Nat.add_assoc _ _ _))⟩))))
   (first | go_meet | (refine Met.intro ?_; go_step; (repeat apply Exists.intro); refine ⟨?rel, ?eqs⟩; case eqs => ((try rw [show (!true) = true from by assumption]); (try rw [show (!true) = false from by assumption]); (try rw [show (!t264) = true from by assumption]); (try rw [show (!t264) = false from by assumption]); (try rfl))))
   case rel => exact ⟨_, (!t264), Z10x4, H', ⟨by first | omega | exact Nat.le_refl _⟩, Z10x3⟩
  ·replace c5 := Bool.eq_false_iff.mpr c5
   subst c5
   have H1 : (spec_SetApart.j0 k l0 l1 true) = some r := by rw [if_neg (show ¬ (false = true) by decide)] at H; exact H
   clear H
   have H := H1
   clear H1
   have H' := Aside0.mk H
   clear H
   go_wp2_with (first | (go_at_call 92; (with_reducible refine (spec_SetOk.calls k _ _ l0 false _ ?side1 ?side2 A4.out).mono ?_); (case side1 => exact Z10x5); (case side2 => exact HC0.out); rintro e w' ⟨rfl, ⟨nd, rfl⟩⟩; (try first | exact ⟨rfl, _, World.drewN_drewN _ _ _⟩ | exact ⟨rfl, _, Eq.trans (World.drewN_drewN _ _ _) (congrArg (World.drewN _) (Nat.add_assoc _ _ _))⟩)))
   repeat (go_quiet (first | (go_at_call 92; (with_reducible refine (spec_SetOk.calls k _ _ l0 false _ ?side1 ?side2 A4.out).mono ?_); (case side1 => exact Z10x5); (case side2 => exact HC0.out); rintro e w' ⟨rfl, ⟨nd, rfl⟩⟩; (try first | exact ⟨rfl, _, World.drewN_drewN _ _ _⟩ | exact ⟨rfl, _, Eq.trans (World.drewN_drewN _ _ _) (congrArg (World.drewN _) (Nat.add_assoc _ _ _))⟩))); try go_wp2_with (first | (go_at_call 92; (with_reducible refine (spec_SetOk.calls k _ _ l0 false _ ?side1 ?side2 A4.out).mono ?_); (case side1 => exact Z10x5); (case side2 => exact HC0.out); rintro e w' ⟨rfl, ⟨nd, rfl⟩⟩; (try first | exact ⟨rfl, _, World.drewN_drewN _ _ _⟩ | exact ⟨rfl, _, Eq.trans (World.drewN_drewN _ _ _) (congrArg (World.drewN _) (Nat.add_assoc _ _ _))⟩))))
   (first | go_meet | (refine Met.intro ?_; go_step; (repeat apply Exists.intro); refine ⟨?rel, ?eqs⟩; case eqs => ((try rw [show (!false) = true from by assumption]); (try rw [show (!false) = false from by assumption]); (try rfl))))
   case rel => exact ⟨_, (true), Z10x4, H', ⟨by first | omega | exact Nat.le_refl _⟩, Z10x3⟩
 case rest =>
  clear HC3
  try clear c1
  try clear p2
  try clear c5
  try clear c6
  obtain ⟨kq, x14_2, rfl, HA, HJ2, ⟨mc2, rfl⟩⟩ := hcut
  cases kq with
  | zero => exact absurd HA.out (by simp [spec_SetApart.j0])
  | succ kj2 =>
   have H := HA.out
   clear HA
   simp only [spec_SetApart.j0] at H
   by_cases c7 : x14_2 = true
   ·subst c7
    have H1 : (some false) = some r := by rw [if_pos rfl] at H; exact H
    clear H;have H := H1;clear H1;obtain rfl := Option.some.inj H;simp only [Option.some.injEq, Prod.mk.injEq] at H;obtain ⟨rfl⟩ := H
    go_wp2
    repeat (go_quiet (fail); try go_wp2)
    go_ret
    exact ⟨Z10x4, Z10x3⟩
   ·replace c7 := Bool.eq_false_iff.mpr c7
    subst c7
    have H1 : (spec_SetApart.l0 kj2 l0 l1 0) = some r := by rw [if_neg (show ¬ (false = true) by decide)] at H; exact H
    clear H;have H := H1;clear H1;have H' := Aside0.mk H;clear H
    go_wp2
    repeat (go_quiet (fail); try go_wp2)
    go_loopg [5] kj2 (fun kq v5 w' => ∃ (x5_2 : Int), v5 = .int .i64 x5_2 ∧ Aside0 (spec_SetApart.l0 kq l0 l1 x5_2 = some r) ∧ Aside0 (kq ≤ kj2) ∧ Drawn0 w w')
    case atStart => exact ⟨(0), Z10x4, H', ⟨Nat.le_refl _⟩, Z10x3⟩
    case round =>
     clear H'
     try clear c1
     try clear c2
     try clear p2
     try clear c5
     try clear c6
     try clear c7
     try clear p2
     obtain ⟨x5_2, rfl, HA, HK2, ⟨m2, rfl⟩⟩ := hrel
     cases gk with
     | zero => exact absurd HA.out (by simp [spec_SetApart.l0])
     | succ k2 =>
      have H := HA.out;clear HA;simp only [spec_SetApart.l0] at H
      by_cases c8 : x5_2 < (l0.length : Int)
      ·rw [if_pos c8] at H
       have c8b0 : decide (x5_2 < (l0.length : Int)) = true := decide_eq_true c8;clear c8;have H' := Aside0.mk H;clear H
       go_wp2
       repeat (go_quiet (fail); try go_wp2)
       go_loopg [6] k2 (fun kq v6 w' => ∃ (x6_3 : Int), v6 = .int .i64 x6_3 ∧ Aside0 (spec_SetApart.l1 kq l0 l1 x5_2 x6_3 = some r) ∧ Aside0 (kq ≤ k2) ∧ Drawn0 w w')
       case atStart => exact ⟨(0), Z10x4, H', ⟨Nat.le_refl _⟩, Z10x3⟩
       case round =>
        clear H'
        try clear c1
        try clear c2
        try clear p2
        try clear c5
        try clear c6
        try clear c7
        try clear c8
        try clear c8b0
        try clear p2
        obtain ⟨x6_3, rfl, HA, HK3, ⟨m3, rfl⟩⟩ := hrel
        cases gk with
        | zero => exact absurd HA.out (by simp [spec_SetApart.l1])
        | succ k3 =>
         have H := HA.out;clear HA;simp only [spec_SetApart.l1] at H
         by_cases c9 : x6_3 < (l1.length : Int)
         ·rw [if_pos c9] at H
          have c9b0 : decide (x6_3 < (l1.length : Int)) = true := decide_eq_true c9;clear c9
          by_cases c10 : 0 ≤ x5_2
          ·rw [if_pos c10] at H
           have c10b0 : decide (0 ≤ x5_2) = true := decide_eq_true c10;clear c10
           by_cases c11 : x5_2 < (l0.length : Int)
           ·rw [if_pos c11] at H
            have c11b0 : decide (x5_2 < (l0.length : Int)) = true := decide_eq_true c11;clear c11
            by_cases c12 : 0 ≤ x6_3
            ·rw [if_pos c12] at H
             have c12b0 : decide (0 ≤ x6_3) = true := decide_eq_true c12;clear c12
             by_cases c13 : ((rd_T70 l0 x5_2).f0) ≤ ((rd_T70 l1 x6_3).f1)
             ·rw [if_pos c13] at H
              have c13b0 : decide (((rd_T70 l0 x5_2).f0) ≤ ((rd_T70 l1 x6_3).f1)) = true := decide_eq_true c13;clear c13
              by_cases c14 : ((rd_T70 l1 x6_3).f0) ≤ ((rd_T70 l0 x5_2).f1)
              ·rw [if_pos c14] at H
               have c14b0 : decide (((rd_T70 l1 x6_3).f0) ≤ ((rd_T70 l0 x5_2).f1)) = true := decide_eq_true c14;clear c14;obtain rfl := Option.some.inj H;simp only [Option.some.injEq, Prod.mk.injEq] at H;obtain ⟨rfl⟩ := H;have p265 : 0 ≤ (x5_2 : Int) := of_decide_eq_true Z10x0;have q265 : x5_2 < (l0.length : Int) := of_decide_eq_true Z10x0;obtain ⟨ad265, e265, hx265_0, hx265_1⟩ := at_T70 HR0.out x5_2 p265 q265
               cases e265
               replace p265 := eq_true p265;replace q265 := eq_true q265;have p266 : 0 ≤ (x6_3 : Int) := of_decide_eq_true Z10x0;have q266 : x6_3 < (l1.length : Int) := of_decide_eq_true Z10x0;obtain ⟨ad266, e266, hx266_0, hx266_1⟩ := at_T70 HR1.out x6_3 p266 q266
               cases e266
               replace p266 := eq_true p266;replace q266 := eq_true q266;have p267 : 0 ≤ (x6_3 : Int) := of_decide_eq_true Z10x0;have q267 : x6_3 < (l1.length : Int) := of_decide_eq_true Z10x0;obtain ⟨ad267, e267, hx267_0, hx267_1⟩ := at_T70 HR1.out x6_3 p267 q267;obtain rfl : ad266 = ad267 := (by injection e267);replace p267 := eq_true p267;replace q267 := eq_true q267;have p268 : 0 ≤ (x5_2 : Int) := of_decide_eq_true Z10x0;have q268 : x5_2 < (l0.length : Int) := of_decide_eq_true Z10x0;obtain ⟨ad268, e268, hx268_0, hx268_1⟩ := at_T70 HR0.out x5_2 p268 q268;obtain rfl : ad265 = ad268 := (by injection e268);replace p268 := eq_true p268;replace q268 := eq_true q268
               go_wp2
               repeat (go_quiet (fail); try go_wp2)
               go_ret
               exact ⟨Z10x4, Z10x3⟩
              ·rw [if_neg c14] at H
               have c14b0 : decide (((rd_T70 l1 x6_3).f0) ≤ ((rd_T70 l0 x5_2).f1)) = false := decide_eq_false c14;clear c14;have H' := Aside0.mk H;clear H;have p265 : 0 ≤ (x5_2 : Int) := of_decide_eq_true Z10x0;have q265 : x5_2 < (l0.length : Int) := of_decide_eq_true Z10x0;obtain ⟨ad265, e265, hx265_0, hx265_1⟩ := at_T70 HR0.out x5_2 p265 q265
               cases e265
               replace p265 := eq_true p265;replace q265 := eq_true q265;have p266 : 0 ≤ (x6_3 : Int) := of_decide_eq_true Z10x0;have q266 : x6_3 < (l1.length : Int) := of_decide_eq_true Z10x0;obtain ⟨ad266, e266, hx266_0, hx266_1⟩ := at_T70 HR1.out x6_3 p266 q266
               cases e266
               replace p266 := eq_true p266;replace q266 := eq_true q266;have p267 : 0 ≤ (x6_3 : Int) := of_decide_eq_true Z10x0;have q267 : x6_3 < (l1.length : Int) := of_decide_eq_true Z10x0;obtain ⟨ad267, e267, hx267_0, hx267_1⟩ := at_T70 HR1.out x6_3 p267 q267;obtain rfl : ad266 = ad267 := (by injection e267);replace p267 := eq_true p267;replace q267 := eq_true q267;have p268 : 0 ≤ (x5_2 : Int) := of_decide_eq_true Z10x0;have q268 : x5_2 < (l0.length : Int) := of_decide_eq_true Z10x0;obtain ⟨ad268, e268, hx268_0, hx268_1⟩ := at_T70 HR0.out x5_2 p268 q268;obtain rfl : ad265 = ad268 := (by injection e268);replace p268 := eq_true p268;replace q268 := eq_true q268
               go_wp2
               repeat (go_quiet (fail); try go_wp2)
               go_roundg k3
               case measure => have := HJ2.out; have := HK2.out; have := HK3.out; omega
               case rel => exact ⟨(wrap64 (x6_3 + 1)), Z10x4, H', ⟨by have := HJ2.out; have := HK2.out; have := HK3.out; omega⟩, Z10x3⟩
             ·rw [if_neg c13] at H
              have c13b0 : decide (((rd_T70 l0 x5_2).f0) ≤ ((rd_T70 l1 x6_3).f1)) = false := decide_eq_false c13;clear c13;have H' := Aside0.mk H;clear H;have p265 : 0 ≤ (x5_2 : Int) := of_decide_eq_true Z10x0;have q265 : x5_2 < (l0.length : Int) := of_decide_eq_true Z10x0;obtain ⟨ad265, e265, hx265_0, hx265_1⟩ := at_T70 HR0.out x5_2 p265 q265
              cases e265
              replace p265 := eq_true p265;replace q265 := eq_true q265;have p266 : 0 ≤ (x6_3 : Int) := of_decide_eq_true Z10x0;have q266 : x6_3 < (l1.length : Int) := of_decide_eq_true Z10x0;obtain ⟨ad266, e266, hx266_0, hx266_1⟩ := at_T70 HR1.out x6_3 p266 q266
              cases e266
              replace p266 := eq_true p266;replace q266 := eq_true q266
              go_wp2
              repeat (go_quiet (fail); try go_wp2)
              go_roundg k3
              case measure => have := HJ2.out; have := HK2.out; have := HK3.out; omega
              case rel => exact ⟨(wrap64 (x6_3 + 1)), Z10x4, H', ⟨by have := HJ2.out; have := HK2.out; have := HK3.out; omega⟩, Z10x3⟩
            ·rw [if_neg c12] at H
             exact absurd H (by simp)
           ·rw [if_neg c11] at H
            exact absurd H (by simp)
          ·rw [if_neg c10] at H
           exact absurd H (by simp)
         ·rw [if_neg c9] at H
          have c9b0 : decide (x6_3 < (l1.length : Int)) = false := decide_eq_false c9;clear c9;have H' := Aside0.mk H;clear H
          go_wp2
          repeat (go_quiet (fail); try go_wp2)
          go_roundg k3
          case measure => have := HJ2.out; have := HK2.out; have := HK3.out; omega
          case rel => exact ⟨(wrap64 (x5_2 + 1)), Z10x4, H', ⟨by have := HJ2.out; have := HK2.out; have := HK3.out; omega⟩, Z10x3⟩
      ·rw [if_neg c8] at H
       have c8b0 : decide (x5_2 < (l0.length : Int)) = false := decide_eq_false c8;clear c8;obtain rfl := Option.some.inj H;simp only [Option.some.injEq, Prod.mk.injEq] at H;obtain ⟨rfl⟩ := H
       go_wp2
       repeat (go_quiet (fail); try go_wp2)
       go_ret
       exact ⟨Z10x4, Z10x3⟩

def spec_l5Copy.f (l0 : List (S70)) : Option ((List (S70))) := (some (([] : List (S70)) : List (S70))).bind fun y269 => (if y269.length + l0.length < 8796093022208 then (some (y269 ++ l0)) else (none))
set_option maxHeartbeats 8000000 in
set_option maxRecDepth 100000 in
theorem spec_l5Copy.calls (A0 : Option Addr) (c0 : Nat) (l0 : List (S70)) (r : List (S70)) (w : World) (hr0 : Kd.C k70 w A0 l0.length l0) (hc0 : l0.length ≤ c0) (h : spec_l5Copy.f l0 = some r) :
  Calls Try.prog 101 #[.slice A0 l0.length c0] w fun e w' => ∃ v0_ : Value, e = .returned (v0_) ∧ Kd.R k70 70 w' w.heap.size (fun _ => True) v0_ r ∧ Below w.heap.size w w' := by
 have HR0 := Aside0.mk hr0
 have HC0 := Aside0.mk hc0
 clear hr0 hc0
 have HB := Aside0.mk (Below.refl w.heap.size w)
 have H : ((some (([] : List (S70)) : List (S70))).bind fun y269 => (if y269.length + l0.length < 8796093022208 then (some (y269 ++ l0)) else (none))) = some r := h
 clear h
 obtain ⟨y269, hy269⟩ : ∃ y_ : List (S70), y_ = (([] : List (S70))) := ⟨_, rfl⟩
 replace H : (if y269.length + l0.length < 8796093022208 then (some (y269 ++ l0)) else (none)) = some r := by first | (rw [hy269]; with_reducible exact H) | (have H2_ := (Option.bind_some _ _).symm.trans H; rw [hy269]; with_reducible exact H2_) | (have H2_ := (Option.bind_some _ _).symm.trans H; with_reducible exact H2_) | with_reducible exact H | (rw [hy269]; exact H) | exact H
 have Ny269 := Aside0.mk hy269
 clear hy269
 by_cases c2 : y269.length + l0.length < 8796093022208
 ·rw [if_pos c2] at H
  have LMc2 := Aside0.mk c2
  clear c2
  obtain ⟨y272, hy272⟩ : ∃ y_ : List (S70), y_ = (y269 ++ l0) := ⟨_, rfl⟩
  replace H : (some y272) = some r := by first | (rw [hy272]; with_reducible exact H) | (have H2_ := (Option.bind_some _ _).symm.trans H; rw [hy272]; with_reducible exact H2_) | (have H2_ := (Option.bind_some _ _).symm.trans H; with_reducible exact H2_) | with_reducible exact H | (rw [hy272]; exact H) | exact H
  have Ny272 := Aside0.mk hy272
  clear hy272
  obtain rfl := Option.some.inj H
  simp only [Option.some.injEq, Prod.mk.injEq] at H
  obtain ⟨rfl⟩ := H
  go_enter Try.func101, Try.ntmps101
  go_wp2_with (first | ((with_reducible refine gate_dst (N := 3) rfl ?_); refine Kd.R_lit k70 _ 70 ?hg (N := 3) ?hd (xs := ([] : List (S70))) (inner := []) (ok := fun _ => True) (okp := fun _ => True) ?hr ?hp (fun _ hk => hk) trivial (Below.refl _ _) (Nat.le_refl _) (by simp) ?_; (case hd => rfl); (case hg => rfl); (case hr => first | (go_simp; done) | (go_simp; rfl)); (case hp => exact (Reps.none _ _)); intro v270 w3 ho4 hb hg_ hnew_; clear hg_ hnew_; (first | rw [← Ny269.out] at ho4 | (simp only [Int.reduceToNat] at ho4; rw [← Ny269.out] at ho4)); have n0_ := Aside0.mk (Kd.R_lower ho4 (below_size Z10x1)); have n1_ := Aside0.mk (below_step Z10x1 hb); clear HB; have HO271 := n0_; have HB := n1_; clear n0_ n1_; clear hb ho4) | ((with_reducible refine gate_builtin (b := .append) (xs := #[.tmp 3, .tmp 4]) rfl ?_); at_builtin; refine Kd.R_append_rows k70 (w0 := w) w.heap.size rfl (.tmp 3) (.tmp 4) 32 70 (.agg #[(.int .i64 0), (.int .i64 0)]) 16 rfl Try.underlying32 info70 rfl (by decide) (by omega) v270 y269 l0 _ _ _ (fun _ => True) (fun _ => False) rfl rfl ?aO ?aR (fun _ _ h => h) (fun _ h => h.elim) ?aF ?aB ?aS ?aL ?_; (case aR => repeat (first | exact (Kd.C_below HR0.out HB.out) | (with_reducible refine Kd.C_alloc ?_ _) | (with_reducible refine Kd.C_drewN ?_ _) | (with_reducible refine Kd.C_drew ?_))); (case aB => exact Z10x1); (case aF => exact (fun _ _ => trivial)); (case aO => exact (by (with_reducible repeat (first | apply Kd.R_alloc | apply Kd.R_drewN | apply Kd.R_drew)); exact HO271.out)); (case aS => exact (below_size Z10x1)); (case aL => have := LMc2.out; omega); intro v273 w5 ho hb hg hat; rw [← Ny272.out] at ho; have n0_ := Aside0.mk (hb); have n1_ := Aside0.mk (ho); clear HB; clear HO271; have HB := n0_; have HO274 := n1_; clear n0_ n1_; clear ho hb hg hat))
  go_ret
  exact ⟨_, Z10x7, by (with_reducible repeat (first | apply Kd.R_alloc | apply Kd.R_drewN | apply Kd.R_drew)); exact HO274.out, Z10x1⟩
 ·rw [if_neg c2] at H
  exact absurd H (by simp)

def spec_l1Min.f (a0 : Int) (a1 : Int) : Option (Int) := if a0 < a1 then (some a0) else (some a1)
set_option maxHeartbeats 8000000 in
set_option maxRecDepth 100000 in
theorem spec_l1Min.calls (a0 : Int) (a1 : Int) (r : Int) (w : World) (h : spec_l1Min.f a0 a1 = some r) :
  Calls Try.prog 108 #[.int .i64 a0, .int .i64 a1] w fun e w' => e = .returned (.int .i64 r) ∧ Drawn0 w w' := by
 have H : (if a0 < a1 then (some a0) else (some a1)) = some r := h
 clear h
 by_cases c3 : a0 < a1
 ·rw [if_pos c3] at H
  have c3b0 : decide (a0 < a1) = true := decide_eq_true c3
  clear c3
  obtain rfl := Option.some.inj H
  simp only [Option.some.injEq, Prod.mk.injEq] at H
  obtain ⟨rfl⟩ := H
  go_enter Try.func108, Try.ntmps108
  go_wp2
  go_ret
  exact ⟨Z10x4, Z10x3⟩
 ·rw [if_neg c3] at H
  have c3b0 : decide (a0 < a1) = false := decide_eq_false c3
  clear c3
  obtain rfl := Option.some.inj H
  simp only [Option.some.injEq, Prod.mk.injEq] at H
  obtain ⟨rfl⟩ := H
  go_enter Try.func108, Try.ntmps108
  go_wp2
  go_ret
  exact ⟨Z10x4, Z10x3⟩

def spec_l1Max.f (a0 : Int) (a1 : Int) : Option (Int) := if a0 > a1 then (some a0) else (some a1)
set_option maxHeartbeats 8000000 in
set_option maxRecDepth 100000 in
theorem spec_l1Max.calls (a0 : Int) (a1 : Int) (r : Int) (w : World) (h : spec_l1Max.f a0 a1 = some r) :
  Calls Try.prog 109 #[.int .i64 a0, .int .i64 a1] w fun e w' => e = .returned (.int .i64 r) ∧ Drawn0 w w' := by
 have H : (if a0 > a1 then (some a0) else (some a1)) = some r := h
 clear h
 by_cases c3 : a0 > a1
 ·rw [if_pos c3] at H
  have c3b0 : decide (a1 < a0) = true := decide_eq_true c3
  clear c3
  obtain rfl := Option.some.inj H
  simp only [Option.some.injEq, Prod.mk.injEq] at H
  obtain ⟨rfl⟩ := H
  go_enter Try.func109, Try.ntmps109
  go_wp2
  go_ret
  exact ⟨Z10x4, Z10x3⟩
 ·rw [if_neg c3] at H
  have c3b0 : decide (a1 < a0) = false := decide_eq_false c3
  clear c3
  obtain rfl := Option.some.inj H
  simp only [Option.some.injEq, Prod.mk.injEq] at H
  obtain ⟨rfl⟩ := H
  go_enter Try.func109, Try.ntmps109
  go_wp2
  go_ret
  exact ⟨Z10x4, Z10x3⟩

end Go.Proofs.Ytdciagkholijlaa.PFnExactEntryAdd
