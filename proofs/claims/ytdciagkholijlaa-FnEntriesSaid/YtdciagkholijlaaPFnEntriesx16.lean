-- Written by this session's changed copy of the kit's printer (wip/patch_print.py): not the kit's own print.
import Derived.Test.YtdciagkholijlaaPFnEntriesx0
import Derived.Test.YtdciagkholijlaaPFnEntriesx7
import Derived.Test.YtdciagkholijlaaPFnEntriesx11
import Derived.Test.YtdciagkholijlaaPFnEntriesx12
import Derived.Test.YtdciagkholijlaaPFnEntriesx15
namespace Go.Proofs.Ytdciagkholijlaa.PFnEntries
open Go.RowKit Go.Proofs.YtdciagkholijlaaW.PrintWords Go.Proofs.YtdciagkholijlaaW.PrintLast Go.Proofs.YtdciagkholijlaaW.PrintMore
attribute [local go_sem] max2_int min2_int max_two min_two max_three min_three max_four min_four   -- for this text's walks alone
set_option linter.unusedVariables false
set_option linter.unusedSimpArgs false
set_option maxHeartbeats 8000000
set_option maxRecDepth 100000
theorem Z16x0 {p : Prop} (h : p := by repeat (first | (with_reducible first | exact HB.out | apply below_alloc | apply pw_below_drewN | apply below_drew1) | exact HB.out)) : p := h
theorem Z16x1 {p : Prop} (h : p := by first | (with_reducible assumption) | assumption) : p := h
theorem Z16x2 {p : Prop} (h : p := by repeat (first | exact aU.out | (with_reducible refine Kd.C_alloc ?_ _) | (with_reducible refine Kd.C_drewN ?_ _) | (with_reducible refine Kd.C_drew ?_))) : p := h
theorem Z16x3 {p : Prop} (h : p := by first | rfl | (simp;done) | (simp [*];done)) : p := h
theorem Z16x4 {p : Prop} (h : p := by repeat (first | exact Drawn0.refl _ | apply Drawn0.step)) : p := h
theorem Z16x5 {p : Prop} (h : p := by (with_reducible repeat (first | apply Kd.R_alloc | apply Kd.R_drewN | apply Kd.R_drew));exact HO_5.out) : p := h
theorem Z16x6 {p : Prop} (h : p := by repeat (first | exact aT.out | (with_reducible refine Kd.C_alloc ?_ _) | (with_reducible refine Kd.C_drewN ?_ _) | (with_reducible refine Kd.C_drew ?_))) : p := h
theorem Z16x7 {p : Prop} (h : p := by (try simp only [List.map_toArray,List.map_cons,List.map_nil]);first | done | rfl | (simp only [List.length_drop,List.length_take];rfl)) : p := h

mutual
def spec_SetApart.j0 : Nat → List (S70) → List (S70) → Bool → Option (Bool)
 | 0,_,_,_ => none
 | k + 1,x0,x1,bU => if bU = true then (some false) else (spec_SetApart.l0 k x0 x1 0)
def spec_SetApart.l0 : Nat → List (S70) → List (S70) → Int → Option (Bool)
 | 0,_,_,_ => none
 | k + 1,x0,x1,x5 => if x5 < (x0.length : Int) then (spec_SetApart.l1 k x0 x1 x5 0) else (some true)
def spec_SetApart.l1 : Nat → List (S70) → List (S70) → Int → Int → Option (Bool)
 | 0,_,_,_,_ => none
 | k + 1,x0,x1,x5,x6 => if x6 < (x1.length : Int) then (if 0 ≤ x5 then (if x5 < (x0.length : Int) then (if 0 ≤ x6 then (if ((rd_T70 x0 x5).f0) ≤ ((rd_T70 x1 x6).f1) then (if ((rd_T70 x1 x6).f0) ≤ ((rd_T70 x0 x5).f1) then (some false) else (spec_SetApart.l1 k x0 x1 x5 (wrap64 (x6 + 1)))) else (spec_SetApart.l1 k x0 x1 x5 (wrap64 (x6 + 1)))) else (none)) else (none)) else (none)) else (spec_SetApart.l0 k x0 x1 (wrap64 (x5 + 1)))
end
def spec_SetApart.f (k : Nat) (l0 : List (S70)) (l1 : List (S70)) : Option (Bool) := (spec_SetOk.f k l0).bind fun bg => (if bg = true then ((spec_SetOk.f k l1).bind fun ar => (spec_SetApart.j0 k l0 l1 (!ar))) else (spec_SetApart.j0 k l0 l1 true))
theorem spec_SetApart.calls (k : Nat) (A0 : Option Addr) (c0 : Nat) (l0 : List (S70)) (A1 : Option Addr) (c1 : Nat) (l1 : List (S70)) (r : Bool) (w : World) (ba : Kd.C k70 w A0 l0.length l0) (bb : l0.length ≤ c0) (bc : Kd.C k70 w A1 l1.length l1) (bd : l1.length ≤ c1) (h : spec_SetApart.f k l0 l1 = some r) :
  Calls Try.prog 62 #[.slice A0 l0.length c0,.slice A1 l1.length c1] w fun e w' => e = .returned (.bool r) ∧ Drawn0 w w' := by
 have aU := mkA ba
 have aV := mkA bb
 clear ba bb
 have aT := mkA bc
 have b2 := mkA bd
 clear bc bd
 have H := h
 unfold spec_SetApart.f at H
 clear h
 have bH := mkA H
 clear H
 go_enter Try.func62,Try.ntmps62
 go_upto_region 1 with (fail)
 repeat (go_quiet (fail);go_upto_region 1 with (fail))
 go_cut [14] (fun bV wc => ∃ (kq : Nat) (a1 : Bool),bV = .bool a1 ∧ Aside0 (spec_SetApart.j0 kq l0 l1 a1 = some r) ∧ Aside0 (kq ≤ k) ∧ Drawn0 w wc)
 case first =>
  have H := bH.out
  clear bH
  replace H := Option.bind_eq_some_iff.mp H
  obtain ⟨bg,bM,H⟩ := H
  try dsimp only at H
  have A4 := mkA bM
  clear bM
  by_cases c5 : bg = true
  ·subst c5
   rw [if_pos rfl] at H
   replace H := Option.bind_eq_some_iff.mp H
   obtain ⟨ar,bN,H⟩ := H
   try dsimp only at H
   have A6 := mkA bN
   clear bN
   have H' := mkA H
   clear H
   go_wp2_with (first | (go_at_call 92;(with_reducible refine (spec_SetOk.calls k _ _ l0 true _ ?ad ?ae A4.out).mono ?_);(case ad => exact Z16x2);(case ae => exact aV.out);rintro e w' ⟨rfl,⟨nd,rfl⟩⟩;(try first | exact ⟨rfl,_,World.drewN_drewN _ _ _⟩ | exact ⟨rfl,_,Eq.trans (World.drewN_drewN _ _ _) (congrArg (World.drewN _) (Nat.add_assoc _ _ _))⟩)) | (go_at_call 92;(with_reducible refine (spec_SetOk.calls k _ _ l1 ar _ ?ad ?ae A6.out).mono ?_);(case ad => exact Z16x6);(case ae => exact b2.out);rintro e w' ⟨rfl,⟨nd,rfl⟩⟩;(try first | exact ⟨rfl,_,World.drewN_drewN _ _ _⟩ | exact ⟨rfl,_,Eq.trans (World.drewN_drewN _ _ _) (congrArg (World.drewN _) (Nat.add_assoc _ _ _))⟩)))
   repeat (go_quiet (first | (go_at_call 92;(with_reducible refine (spec_SetOk.calls k _ _ l0 true _ ?ad ?ae A4.out).mono ?_);(case ad => exact Z16x2);(case ae => exact aV.out);rintro e w' ⟨rfl,⟨nd,rfl⟩⟩;(try first | exact ⟨rfl,_,World.drewN_drewN _ _ _⟩ | exact ⟨rfl,_,Eq.trans (World.drewN_drewN _ _ _) (congrArg (World.drewN _) (Nat.add_assoc _ _ _))⟩)) | (go_at_call 92;(with_reducible refine (spec_SetOk.calls k _ _ l1 ar _ ?ad ?ae A6.out).mono ?_);(case ad => exact Z16x6);(case ae => exact b2.out);rintro e w' ⟨rfl,⟨nd,rfl⟩⟩;(try first | exact ⟨rfl,_,World.drewN_drewN _ _ _⟩ | exact ⟨rfl,_,Eq.trans (World.drewN_drewN _ _ _) (congrArg (World.drewN _) (Nat.add_assoc _ _ _))⟩)));try go_wp2_with (first | (go_at_call 92;(with_reducible refine (spec_SetOk.calls k _ _ l0 true _ ?ad ?ae A4.out).mono ?_);(case ad => exact Z16x2);(case ae => exact aV.out);rintro e w' ⟨rfl,⟨nd,rfl⟩⟩;(try first | exact ⟨rfl,_,World.drewN_drewN _ _ _⟩ | exact ⟨rfl,_,Eq.trans (World.drewN_drewN _ _ _) (congrArg (World.drewN _) (Nat.add_assoc _ _ _))⟩)) | (go_at_call 92;(with_reducible refine (spec_SetOk.calls k _ _ l1 ar _ ?ad ?ae A6.out).mono ?_);(case ad => exact Z16x6);(case ae => exact b2.out);rintro e w' ⟨rfl,⟨nd,rfl⟩⟩;(try first | exact ⟨rfl,_,World.drewN_drewN _ _ _⟩ | exact ⟨rfl,_,Eq.trans (World.drewN_drewN _ _ _) (congrArg (World.drewN _) (Nat.add_assoc _ _ _))⟩))))
   (first | go_meet | (refine Met.intro ?_;go_step;(repeat apply Exists.intro);refine ⟨?rel,?eqs⟩;case eqs => ((try rw [show (!true) = true from by assumption]);(try rw [show (!true) = false from by assumption]);(try rw [show (!ar) = true from by assumption]);(try rw [show (!ar) = false from by assumption]);(try rfl))))
   case rel => exact ⟨_,(!ar),Z16x3,H',⟨by first | omega | exact Nat.le_refl _⟩,Z16x4⟩
  ·replace c5 := Bool.eq_false_iff.mpr c5
   subst c5
   rw [if_neg (show ¬ (false = true) by decide)] at H
   have H' := mkA H
   clear H
   go_wp2_with (first | (go_at_call 92;(with_reducible refine (spec_SetOk.calls k _ _ l0 false _ ?ad ?ae A4.out).mono ?_);(case ad => exact Z16x2);(case ae => exact aV.out);rintro e w' ⟨rfl,⟨nd,rfl⟩⟩;(try first | exact ⟨rfl,_,World.drewN_drewN _ _ _⟩ | exact ⟨rfl,_,Eq.trans (World.drewN_drewN _ _ _) (congrArg (World.drewN _) (Nat.add_assoc _ _ _))⟩)))
   repeat (go_quiet (first | (go_at_call 92;(with_reducible refine (spec_SetOk.calls k _ _ l0 false _ ?ad ?ae A4.out).mono ?_);(case ad => exact Z16x2);(case ae => exact aV.out);rintro e w' ⟨rfl,⟨nd,rfl⟩⟩;(try first | exact ⟨rfl,_,World.drewN_drewN _ _ _⟩ | exact ⟨rfl,_,Eq.trans (World.drewN_drewN _ _ _) (congrArg (World.drewN _) (Nat.add_assoc _ _ _))⟩)));try go_wp2_with (first | (go_at_call 92;(with_reducible refine (spec_SetOk.calls k _ _ l0 false _ ?ad ?ae A4.out).mono ?_);(case ad => exact Z16x2);(case ae => exact aV.out);rintro e w' ⟨rfl,⟨nd,rfl⟩⟩;(try first | exact ⟨rfl,_,World.drewN_drewN _ _ _⟩ | exact ⟨rfl,_,Eq.trans (World.drewN_drewN _ _ _) (congrArg (World.drewN _) (Nat.add_assoc _ _ _))⟩))))
   (first | go_meet | (refine Met.intro ?_;go_step;(repeat apply Exists.intro);refine ⟨?rel,?eqs⟩;case eqs => ((try rw [show (!false) = true from by assumption]);(try rw [show (!false) = false from by assumption]);(try rfl))))
   case rel => exact ⟨_,(true),Z16x3,H',⟨by first | omega | exact Nat.le_refl _⟩,Z16x4⟩
 case rest =>
  clear bH
  try clear c1
  try clear p2
  try clear c5
  try clear c6
  obtain ⟨kq,a1,rfl,HA,bs,⟨cf,rfl⟩⟩ := hcut
  cases kq with
  | zero => exact absurd HA.out (by simp [spec_SetApart.j0])
  | succ bO =>
   have H := HA.out
   clear HA
   simp only [spec_SetApart.j0] at H
   by_cases c7 : a1 = true
   ·subst c7
    rw [if_pos rfl] at H;obtain rfl := Option.some.inj H;simp only [Option.some.injEq,Prod.mk.injEq] at H;obtain ⟨rfl⟩ := H
    go_wp2
    repeat (go_quiet (fail);try go_wp2)
    go_ret
    exact ⟨Z16x3,Z16x4⟩
   ·replace c7 := Bool.eq_false_iff.mpr c7
    subst c7;rw [if_neg (show ¬ (false = true) by decide)] at H;have H' := mkA H;clear H
    go_wp2
    repeat (go_quiet (fail);try go_wp2)
    go_loopg [5] bO (fun kq v5 w' => ∃ (ab : Int),v5 = vi ab ∧ Aside0 (spec_SetApart.l0 kq l0 l1 ab = some r) ∧ Aside0 (kq ≤ bO) ∧ Drawn0 w w')
    case atStart => exact ⟨(0),Z16x3,H',⟨Nat.le_refl _⟩,Z16x4⟩
    case round =>
     clear H'
     try clear c1
     try clear c2
     try clear p2
     try clear c5
     try clear c6
     try clear c7
     try clear p2
     obtain ⟨ab,rfl,HA,bu,⟨m2,rfl⟩⟩ := hrel
     cases gk with
     | zero => exact absurd HA.out (by simp [spec_SetApart.l0])
     | succ k2 =>
      have H := HA.out;clear HA;simp only [spec_SetApart.l0] at H
      by_cases c8 : ab < (l0.length : Int)
      ·rw [if_pos c8] at H
       have c8b0 : decide (ab < (l0.length : Int)) = true := decide_eq_true c8;clear c8;have H' := mkA H;clear H
       go_wp2
       repeat (go_quiet (fail);try go_wp2)
       go_loopg [6] k2 (fun kq v6 w' => ∃ (af : Int),v6 = vi af ∧ Aside0 (spec_SetApart.l1 kq l0 l1 ab af = some r) ∧ Aside0 (kq ≤ k2) ∧ Drawn0 w w')
       case atStart => exact ⟨(0),Z16x3,H',⟨Nat.le_refl _⟩,Z16x4⟩
       case round =>
        clear H'
        try clear c1
        try clear c2
        try clear p2
        try clear c5
        try clear c6
        try clear c7
        try clear c8
        try clear c8b0
        try clear p2
        obtain ⟨af,rfl,HA,bw,⟨m3,rfl⟩⟩ := hrel
        cases gk with
        | zero => exact absurd HA.out (by simp [spec_SetApart.l1])
        | succ k3 =>
         have H := HA.out;clear HA;simp only [spec_SetApart.l1] at H
         by_cases c9 : af < (l1.length : Int)
         ·rw [if_pos c9] at H
          have c9b0 : decide (af < (l1.length : Int)) = true := decide_eq_true c9;clear c9
          by_cases c10 : 0 ≤ ab
          ·rw [if_pos c10] at H
           have c10b0 : decide (0 ≤ ab) = true := decide_eq_true c10;clear c10
           by_cases bF : ab < (l0.length : Int)
           ·rw [if_pos bF] at H
            have c11b0 : decide (ab < (l0.length : Int)) = true := decide_eq_true bF;clear bF
            by_cases bG : 0 ≤ af
            ·rw [if_pos bG] at H
             have c12b0 : decide (0 ≤ af) = true := decide_eq_true bG;clear bG
             by_cases bz : ((rd_T70 l0 ab).f0) ≤ ((rd_T70 l1 af).f1)
             ·rw [if_pos bz] at H
              have c13b0 : decide (((rd_T70 l0 ab).f0) ≤ ((rd_T70 l1 af).f1)) = true := decide_eq_true bz;clear bz
              by_cases b0 : ((rd_T70 l1 af).f0) ≤ ((rd_T70 l0 ab).f1)
              ·rw [if_pos b0] at H
               have c14b0 : decide (((rd_T70 l1 af).f0) ≤ ((rd_T70 l0 ab).f1)) = true := decide_eq_true b0;clear b0;obtain rfl := Option.some.inj H;simp only [Option.some.injEq,Prod.mk.injEq] at H;obtain ⟨rfl⟩ := H;have al : 0 ≤ (ab : Int) := of_decide_eq_true Z16x1;have an : ab < (l0.length : Int) := of_decide_eq_true Z16x1;obtain ⟨a6,aM,a7,a8⟩ := at_T70 aU.out ab al an
               cases aM
               replace al := eq_true al;replace an := eq_true an;have ao : 0 ≤ (af : Int) := of_decide_eq_true Z16x1;have aq : af < (l1.length : Int) := of_decide_eq_true Z16x1;obtain ⟨aA,aN,aC,aD⟩ := at_T70 aT.out af ao aq
               cases aN
               replace ao := eq_true ao;replace aq := eq_true aq;have aw : 0 ≤ (af : Int) := of_decide_eq_true Z16x1;have ax : af < (l1.length : Int) := of_decide_eq_true Z16x1;obtain ⟨aQ,bh,aW,aX⟩ := at_T70 aT.out af aw ax;obtain rfl : aA = aQ := (by injection bh);replace aw := eq_true aw;replace ax := eq_true ax;have ay : 0 ≤ (ab : Int) := of_decide_eq_true Z16x1;have az : ab < (l0.length : Int) := of_decide_eq_true Z16x1;obtain ⟨aR,bj,aY,aZ⟩ := at_T70 aU.out ab ay az;obtain rfl : a6 = aR := (by injection bj);replace ay := eq_true ay;replace az := eq_true az
               go_wp2
               repeat (go_quiet (fail);try go_wp2)
               go_ret
               exact ⟨Z16x3,Z16x4⟩
              ·rw [if_neg b0] at H
               have c14b0 : decide (((rd_T70 l1 af).f0) ≤ ((rd_T70 l0 ab).f1)) = false := decide_eq_false b0;clear b0;have H' := mkA H;clear H;have al : 0 ≤ (ab : Int) := of_decide_eq_true Z16x1;have an : ab < (l0.length : Int) := of_decide_eq_true Z16x1;obtain ⟨a6,aM,a7,a8⟩ := at_T70 aU.out ab al an
               cases aM
               replace al := eq_true al;replace an := eq_true an;have ao : 0 ≤ (af : Int) := of_decide_eq_true Z16x1;have aq : af < (l1.length : Int) := of_decide_eq_true Z16x1;obtain ⟨aA,aN,aC,aD⟩ := at_T70 aT.out af ao aq
               cases aN
               replace ao := eq_true ao;replace aq := eq_true aq;have aw : 0 ≤ (af : Int) := of_decide_eq_true Z16x1;have ax : af < (l1.length : Int) := of_decide_eq_true Z16x1;obtain ⟨aQ,bh,aW,aX⟩ := at_T70 aT.out af aw ax;obtain rfl : aA = aQ := (by injection bh);replace aw := eq_true aw;replace ax := eq_true ax;have ay : 0 ≤ (ab : Int) := of_decide_eq_true Z16x1;have az : ab < (l0.length : Int) := of_decide_eq_true Z16x1;obtain ⟨aR,bj,aY,aZ⟩ := at_T70 aU.out ab ay az;obtain rfl : a6 = aR := (by injection bj);replace ay := eq_true ay;replace az := eq_true az
               go_wp2
               repeat (go_quiet (fail);try go_wp2)
               go_roundg k3
               case measure => have := bs.out;have := bu.out;have := bw.out;omega
               case rel => exact ⟨(wrap64 (af + 1)),Z16x3,H',⟨by have := bs.out;have := bu.out;have := bw.out;omega⟩,Z16x4⟩
             ·rw [if_neg bz] at H
              have c13b0 : decide (((rd_T70 l0 ab).f0) ≤ ((rd_T70 l1 af).f1)) = false := decide_eq_false bz;clear bz;have H' := mkA H;clear H;have al : 0 ≤ (ab : Int) := of_decide_eq_true Z16x1;have an : ab < (l0.length : Int) := of_decide_eq_true Z16x1;obtain ⟨a6,aM,a7,a8⟩ := at_T70 aU.out ab al an
              cases aM
              replace al := eq_true al;replace an := eq_true an;have ao : 0 ≤ (af : Int) := of_decide_eq_true Z16x1;have aq : af < (l1.length : Int) := of_decide_eq_true Z16x1;obtain ⟨aA,aN,aC,aD⟩ := at_T70 aT.out af ao aq
              cases aN
              replace ao := eq_true ao;replace aq := eq_true aq
              go_wp2
              repeat (go_quiet (fail);try go_wp2)
              go_roundg k3
              case measure => have := bs.out;have := bu.out;have := bw.out;omega
              case rel => exact ⟨(wrap64 (af + 1)),Z16x3,H',⟨by have := bs.out;have := bu.out;have := bw.out;omega⟩,Z16x4⟩
            ·rw [if_neg bG] at H
             exact absurd H (by simp)
           ·rw [if_neg bF] at H
            exact absurd H (by simp)
          ·rw [if_neg c10] at H
           exact absurd H (by simp)
         ·rw [if_neg c9] at H
          have c9b0 : decide (af < (l1.length : Int)) = false := decide_eq_false c9;clear c9;have H' := mkA H;clear H
          go_wp2
          repeat (go_quiet (fail);try go_wp2)
          go_roundg k3
          case measure => have := bs.out;have := bu.out;have := bw.out;omega
          case rel => exact ⟨(wrap64 (ab + 1)),Z16x3,H',⟨by have := bs.out;have := bu.out;have := bw.out;omega⟩,Z16x4⟩
      ·rw [if_neg c8] at H
       have c8b0 : decide (ab < (l0.length : Int)) = false := decide_eq_false c8;clear c8;obtain rfl := Option.some.inj H;simp only [Option.some.injEq,Prod.mk.injEq] at H;obtain ⟨rfl⟩ := H
       go_wp2
       repeat (go_quiet (fail);try go_wp2)
       go_ret
       exact ⟨Z16x3,Z16x4⟩

def spec_l5Join.l0 : Nat → List (S70) → List (S70) → Int → Option ((List (S70)))
 | 0,_,_,_ => none
 | k + 1,x1,x5,x6 => if x6 < (x1.length : Int) then (if 0 ≤ x6 then ((spec_l5Put.f k x5 ((rd_T70 x1 x6).f0) ((rd_T70 x1 x6).f1)).bind fun a_ => (spec_l5Join.l0 k x1 a_ (wrap64 (x6 + 1)))) else (none)) else (some x5)
def spec_l5Join.f (k : Nat) (l0 : List (S70)) (l1 : List (S70)) : Option ((List (S70))) := (spec_l5Copy.f l0).bind fun aJ => (spec_l5Join.l0 k l1 aJ 0)
theorem spec_l5Join.calls (k : Nat) (A0 : Option Addr) (c0 : Nat) (l0 : List (S70)) (A1 : Option Addr) (c1 : Nat) (l1 : List (S70)) (r : List (S70)) (w : World) (ba : Kd.C k70 w A0 l0.length l0) (bb : l0.length ≤ c0) (bc : Kd.C k70 w A1 l1.length l1) (bd : l1.length ≤ c1) (h : spec_l5Join.f k l0 l1 = some r) :
  Calls Try.prog 93 #[.slice A0 l0.length c0,.slice A1 l1.length c1] w fun e w' => ∃ b3 : Value,e = .returned (b3) ∧ Kd.R k70 70 w' w.heap.size (fun _ => True) b3 r ∧ Below w.heap.size w w' := by
 have bW := Try.underlying70
 have aU := mkA ba
 have aV := mkA bb
 clear ba bb
 have aT := mkA bc
 have b2 := mkA bd
 clear bc bd
 have HB := mkA (Below.refl w.heap.size w)
 have H : ((spec_l5Copy.f l0).bind fun aJ => (spec_l5Join.l0 k l1 aJ 0)) = some r := h
 clear h
 replace H := Option.bind_eq_some_iff.mp H
 obtain ⟨aJ,bP,H⟩ := H
 try dsimp only at H
 have A3 := mkA bP
 clear bP
 have H' := mkA H
 clear H
 go_enter Try.func93,Try.ntmps93
 go_wp2_with (first | ((with_reducible refine gate_callee (f := 101) rfl ?_);refine goesL_ (some 8) rfl rfl Try.func101 (by kernel_rfl) rfl #[.slice A0 l0.length c0] rfl Z16x7 ?_;(with_reducible refine (spec_l5Copy.calls _ _ l0 aJ _ ?ad ?ae A3.out).mono ?_);(case ad => exact Z16x2);(case ae => exact aV.out);rintro e w4 ⟨bX,rfl,b1,hb⟩;refine ⟨_,rfl,?_⟩;have aE := mkA (Kd.R_lower b1 (below_size Z16x0));have aG := mkA (below_step Z16x0 hb);clear HB;have b4 := aE;have HB := aG;clear aE aG;(try clear hb);(try clear bY);(try clear hk);(try clear hi);(try clear b1)))
 go_loopg [5,6] k (fun kq v5 v6 w' => ∃ (ai : List (S70)) (aa : Int),v6 = vi aa ∧ Aside0 (spec_l5Join.l0 kq l1 ai aa = some r) ∧ Aside0 (kq ≤ k) ∧ Aside0 (Kd.R k70 70 w' w.heap.size (fun _ => True) v5 ai) ∧ Aside0 (Below w.heap.size w w'))
 case atStart => exact ⟨(aJ),(0),Z16x3,H',⟨Nat.le_refl _⟩,⟨by (with_reducible repeat (first | apply Kd.R_alloc | apply Kd.R_drewN | apply Kd.R_drew));exact b4.out⟩,⟨Z16x0⟩⟩
 case round =>
  clear H'
  try clear c1
  try clear p2
  obtain ⟨ai,aa,rfl,HA,b5,HO_5,HB⟩ := hrel
  cases gk with
  | zero => exact absurd HA.out (by simp [spec_l5Join.l0])
  | succ k1 =>
   have H := HA.out
   clear HA
   simp only [spec_l5Join.l0] at H
   by_cases c5 : aa < (l1.length : Int)
   ·rw [if_pos c5] at H
    have c5b0 : decide (aa < (l1.length : Int)) = true := decide_eq_true c5;clear c5
    by_cases c6 : 0 ≤ aa
    ·rw [if_pos c6] at H
     have c6b0 : decide (0 ≤ aa) = true := decide_eq_true c6;clear c6;replace H := Option.bind_eq_some_iff.mp H;obtain ⟨a_,bQ,H⟩ := H
     try dsimp only at H
     have A7 := mkA bQ;clear bQ;have H' := mkA H;clear H;have bk : 0 ≤ (aa : Int) := of_decide_eq_true Z16x1;have bm : aa < (l1.length : Int) := of_decide_eq_true Z16x1;obtain ⟨bR,bI,aH,aI⟩ := at_T70 aT.out aa bk bm
     cases bI
     replace aH := czB HB.out aH;replace aI := czB HB.out aI;replace bk := eq_true bk;replace bm := eq_true bm;obtain ⟨bZ,b_,ca⟩ := Kd.R_slice HO_5.out;subst ca
     go_wp2_with (first | ((with_reducible refine gate_callee (f := 106) rfl ?_);refine goesL_ (some 20) rfl rfl Try.func106 (by kernel_rfl) rfl #[.slice bZ ai.length b_,.agg #[vi ((rd_T70 l1 aa).f0),vi ((rd_T70 l1 aa).f1)]] rfl Z16x7 ?_;(with_reducible refine (spec_l5Put.calls k1 _ _ ai ((rd_T70 l1 aa).f0) ((rd_T70 l1 aa).f1) a_ _ ?ad ?ae A7.out).mono ?_);(case ad => repeat (first | exact (Kd.R_reads' HO_5.out).2.2 | (with_reducible refine Kd.C_alloc ?_ _) | (with_reducible refine Kd.C_drewN ?_ _) | (with_reducible refine Kd.C_drew ?_)));(case ae => exact (Kd.R_reads' HO_5.out).2.1);rintro e w9 ⟨cb,rfl,b1,hb⟩;refine ⟨_,rfl,?_⟩;have aE := mkA (Kd.R_elder' Z16x5 (Kd.R_base b1) hb);have aG := mkA (Kd.R_lower (Kd.R_new' b1 (Kd.R_lt Z16x5)) (below_size Z16x0));have bS := mkA (below_step Z16x0 hb);clear HO_5;clear HB;have HO_5 := aE;have b6 := aG;have HB := bS;clear aE aG bS;(try clear hb);(try clear bY);(try clear hk);(try clear hi);(try clear b1)))
     go_roundg k1
     case measure => have := b5.out;omega
     case rel => exact ⟨(a_),(wrap64 (aa + 1)),Z16x3,H',⟨by have := b5.out;omega⟩,⟨by (with_reducible repeat (first | apply Kd.R_alloc | apply Kd.R_drewN | apply Kd.R_drew));exact Kd.R_mono b6.out (fun _ hk => trivial)⟩,⟨Z16x0⟩⟩
    ·rw [if_neg c6] at H
     exact absurd H (by simp)
   ·rw [if_neg c5] at H
    have c5b0 : decide (aa < (l1.length : Int)) = false := decide_eq_false c5;clear c5;obtain rfl := Option.some.inj H;simp only [Option.some.injEq,Prod.mk.injEq] at H;obtain ⟨rfl⟩ := H
    go_wp2
    go_ret
    exact ⟨_,by first | rfl | (simp [errW_none,errW_some] <;> rfl) | (simp [*,errW_none,errW_some] <;> rfl),Z16x5,Z16x0⟩

def spec_l3Sum.l0 : Nat → List Int → List Int → List Int → Int → Option (List Int)
 | 0,_,_,_,_ => none
 | k + 1,x0,x1,x5,x6 => if x6 < (x0.length : Int) then (if 0 ≤ x6 then (if x6 < (x1.length : Int) then ((spec_Add.f (rd x0 x6) (rd x1 x6)).bind fun aK => (if x5.length < 17592186044416 then (spec_l3Sum.l0 k x0 x1 (x5 ++ [aK]) (wrap64 (x6 + 1))) else (none))) else (none)) else (none)) else (some x5)
def spec_l3Sum.f (k : Nat) (l0 : List Int) (l1 : List Int) : Option (List Int) := spec_l3Sum.l0 k l0 l1 (([] : List Int)) 0
def spec_l3Sum.T5 : Bool × List (List Nat × List Nat) := (true,[([],[]),([],[]),([],[]),([1,2],[1,2]),([3],[3]),([],[]),([],[]),([5,6],[5,6]),([7],[7]),([4,8],[4,8]),([9],[9]),([0,10,9],[0,10]),([11,11,0,1,2,3,4,5,6,7,8,9,10,11],[0,11])])
def spec_l3Sum.B5 : List Nat := [0,0,0,6,14,0,0,96,224,510,1022,2047,4095]
theorem spec_l3Sum.tab5 : rtab .any (opsOf Try.f110 5) = spec_l3Sum.T5 := by kernel_rfl
theorem spec_l3Sum.bits5 : waitsOk spec_l3Sum.T5.2 spec_l3Sum.B5 = true := by kernel_rfl
theorem spec_l3Sum.calls (k : Nat) (A0 : Option Addr) (c0 : Nat) (l0 : List Int) (A1 : Option Addr) (c1 : Nat) (l1 : List Int) (r : List Int) (w : World) (ba : Kd.C (Kd.int .i64) w A0 l0.length l0) (bb : l0.length ≤ c0) (bc : Kd.C (Kd.int .i64) w A1 l1.length l1) (bd : l1.length ≤ c1) (h : spec_l3Sum.f k l0 l1 = some r) :
  Calls Try.prog 110 #[.slice A0 l0.length c0,.slice A1 l1.length c1] w fun e w' => ∃ b3 : Value,e = .returned (b3) ∧ Kd.R (Kd.int .i64) 3 w' w.heap.size (fun _ => True) b3 r ∧ Below w.heap.size w w' := by
 have aU := mkA ba
 have aV := mkA bb
 clear ba bb
 have aT := mkA bc
 have b2 := mkA bd
 clear bc bd
 have HB := mkA (Below.refl w.heap.size w)
 have H : (spec_l3Sum.l0 k l0 l1 (([] : List Int)) 0) = some r := h
 clear h
 obtain ⟨b7,au⟩ : ∃ y_ : List Int,y_ = (([] : List Int)) := ⟨_,rfl⟩
 replace H : (spec_l3Sum.l0 k l0 l1 b7 0) = some r := by first | (rw [au];with_reducible exact H) | (have bn := (Option.bind_some _ _).symm.trans H;rw [au];with_reducible exact bn) | (have bn := (Option.bind_some _ _).symm.trans H;with_reducible exact bn) | with_reducible exact H | (rw [au];exact H) | exact H
 have bf := mkA au
 clear au
 have H' := mkA H
 clear H
 go_enter Try.func110,Try.ntmps110
 go_wp2_with (first | ((with_reducible refine gate_dst (N := 7) rfl ?_);refine Kd.R_lit (Kd.int .i64) _ 3 ?hg (N := 7) ?hd (xs := ([] : List Int)) (inner := []) (ok := fun _ => True) (okp := fun _ => True) ?hr ?hp (fun _ hk => hk) trivial (Below.refl _ _) (Nat.le_refl _) (by simp) ?_;(case hd => rfl);(case hg => rfl);(case hr => first | (go_simp;done) | (go_simp;rfl));(case hp => exact (Reps.none _ _));intro cc w3 b8 hb hg_ hnew_;clear hg_ hnew_;(first | rw [← bf.out] at b8 | (simp only [Int.reduceToNat] at b8;rw [← bf.out] at b8));have aE := mkA (Kd.R_lower b8 (below_size Z16x0));have aG := mkA (below_step Z16x0 hb);clear HB;have b9 := aE;have HB := aG;clear aE aG;clear hb b8))
 go_loopg [5,6] k (fun kq v5 v6 w' => ∃ (ai : List Int) (aa : Int),v6 = vi aa ∧ Aside0 (spec_l3Sum.l0 kq l0 l1 ai aa = some r) ∧ Aside0 (kq ≤ k) ∧ Aside0 (Kd.R (Kd.int .i64) 3 w' w.heap.size (fun _ => True) v5 ai) ∧ Aside0 (Below w.heap.size w w'))
 case atStart => exact ⟨(b7),(0),Z16x3,H',⟨Nat.le_refl _⟩,⟨by (with_reducible repeat (first | apply Kd.R_alloc | apply Kd.R_drewN | apply Kd.R_drew));exact b9.out⟩,⟨Z16x0⟩⟩
 case round =>
  clear H'
  try clear c1
  try clear p2
  obtain ⟨ai,aa,rfl,HA,b5,HO_5,HB⟩ := hrel
  cases gk with
  | zero => exact absurd HA.out (by simp [spec_l3Sum.l0])
  | succ k1 =>
   have H := HA.out
   clear HA
   simp only [spec_l3Sum.l0] at H
   by_cases c5 : aa < (l0.length : Int)
   ·rw [if_pos c5] at H
    have c5b0 : decide (aa < (l0.length : Int)) = true := decide_eq_true c5;clear c5
    by_cases c6 : 0 ≤ aa
    ·rw [if_pos c6] at H
     have c6b0 : decide (0 ≤ aa) = true := decide_eq_true c6;clear c6
     by_cases c7 : aa < (l1.length : Int)
     ·rw [if_pos c7] at H
      have c7b0 : decide (aa < (l1.length : Int)) = true := decide_eq_true c7;clear c7;replace H := Option.bind_eq_some_iff.mp H;obtain ⟨aK,bT,H⟩ := H
      try dsimp only at H
      have A8 := mkA bT;clear bT
      by_cases c9 : ai.length < 17592186044416
      ·rw [if_pos c9] at H
       have bJ := mkA c9;clear c9;obtain ⟨bA,av⟩ : ∃ y_ : List Int,y_ = (ai ++ [aK]) := ⟨_,rfl⟩
       replace H : (spec_l3Sum.l0 k1 l0 l1 bA (wrap64 (aa + 1))) = some r := by first | (rw [av];with_reducible exact H) | (have bn := (Option.bind_some _ _).symm.trans H;rw [av];with_reducible exact bn) | (have bn := (Option.bind_some _ _).symm.trans H;with_reducible exact bn) | with_reducible exact H | (rw [av];exact H) | exact H
       have bB := mkA av;clear av;have H' := mkA H;clear H
       try go_wp2
       have aE := mkA (Kd.R_drew HO_5.out);have aG := mkA (below_drew1 HB.out);clear HO_5;clear HB;have HO_5 := aE;have HB := aG;clear aE aG;have bo : 0 ≤ (aa : Int) := of_decide_eq_true Z16x1;have bp : aa < (l0.length : Int) := of_decide_eq_true Z16x1;obtain ⟨bC,bK,aj⟩ := Kd.at_int aU.out aa bo bp;have ag := aj
       cases bK
       replace aj := czB HB.out aj;replace bo := eq_true bo;replace bp := eq_true bp;have bq : 0 ≤ (aa : Int) := of_decide_eq_true Z16x1;have br : aa < (l1.length : Int) := of_decide_eq_true Z16x1;obtain ⟨bD,bL,ak⟩ := Kd.at_int aT.out aa bq br;have ah := ak
       cases bL
       replace ak := czB HB.out ak;replace bq := eq_true bq;replace br := eq_true br;refine start_ (n := 13) (S := fun w' => w'.cell? (bC.add (aa).toNat) = some (vi (rd l0 aa)) ∧ w'.cell? (bD.add (aa).toNat) = some (vi (rd l1 aa))) (ds := []) #[false,false,false,false,false,false,false,false,false,false,false,false,false] (by kernel_rfl) rfl rfl ⟨((HB.out.cell (World.block_lt_of_cell? w _ ag)).trans ag),((HB.out.cell (World.block_lt_of_cell? w _ ah)).trans ah)⟩ (fun hHeld => ?_);refine with_tabW spec_l3Sum.tab5 spec_l3Sum.bits5 (fun HT_ HW_ => ?_);generalize wr.drew = cg at HO_5 HB aj ak hHeld ⊢;refine pure_ (i := 0) (N := some 14) (v := ?_) (a' := ?_) #[true,false,false,false,false,false,false,false,false,false,false,false,false] rfl rfl (any_of HT_.out (by kernel_rfl)) (fun _ _ _ h => h) (Or.inl ⟨by rfl,?_⟩) ?_ ?_
       rotate_left
       ·intro w'
        go_simp
        with_reducible rfl
       rotate_left
       ·simp only [czP]
        rfl
       refine pure_ (i := 1) (N := some 15) (v := ?_) (a' := ?_) #[true,true,false,false,false,false,false,false,false,false,false,false,false] rfl rfl (any_of HT_.out (by kernel_rfl)) (fun _ _ _ h => h) (Or.inl ⟨by rfl,?_⟩) ?_ ?_
       rotate_left
       ·intro w'
        go_simp
        with_reducible rfl
       rotate_left
       ·simp only [czP]
        rfl
       refine pure_ (i := 2) (N := some 16) (v := ?_) (a' := ?_) #[true,true,true,false,false,false,false,false,false,false,false,false,false] rfl rfl (any_of HT_.out (by kernel_rfl)) (fun _ _ _ h => h) (Or.inl ⟨by rfl,?_⟩) ?_ ?_
       rotate_left
       ·intro w'
        go_simp
        with_reducible rfl
       rotate_left
       ·simp only [czP]
        rfl
       refine pure_ (i := 3) (N := some 17) (v := ?_) (a' := ?_) #[true,true,true,true,false,false,false,false,false,false,false,false,false] rfl rfl (any_of HT_.out (by kernel_rfl)) (fun _ _ _ h => h) (Or.inl ⟨by rfl,?_⟩) ?_ ?_
       rotate_left
       ·intro w'
        go_simp
        with_reducible rfl
       rotate_left
       ·simp only [czP]
        rfl
       refine pure_ (i := 5) (N := some 19) (v := ?_) (a' := ?_) #[true,true,true,true,false,true,false,false,false,false,false,false,false] rfl rfl (any_of HT_.out (by kernel_rfl)) (fun _ _ _ h => h) (Or.inl ⟨by rfl,?_⟩) ?_ ?_
       rotate_left
       ·intro w'
        go_simp
        with_reducible rfl
       rotate_left
       ·simp only [czP]
        rfl
       refine pure_ (i := 6) (N := some 20) (v := ?_) (a' := ?_) #[true,true,true,true,false,true,true,false,false,false,false,false,false] rfl rfl (any_of HT_.out (by kernel_rfl)) (fun _ _ _ h => h) (Or.inl ⟨by rfl,?_⟩) ?_ ?_
       rotate_left
       ·intro w'
        go_simp
        with_reducible rfl
       rotate_left
       ·simp only [czP]
        rfl
       refine pure_ (i := 7) (N := some 21) (v := ?_) (a' := ?_) #[true,true,true,true,false,true,true,true,false,false,false,false,false] rfl rfl (any_of HT_.out (by kernel_rfl)) (fun _ _ _ h => h) (Or.inl ⟨by rfl,?_⟩) ?_ ?_
       rotate_left
       ·intro w'
        go_simp
        with_reducible rfl
       rotate_left
       ·simp only [czP]
        rfl
       refine take_ (i := 4) (N := some 18) (v := ?_) (a' := ?_) #[true,true,true,true,true,true,true,true,false,false,false,false,false] rfl rfl (take_ofW HT_.out HW_.out (by kernel_rfl)) (fun _ _ _ h => h) (Or.inl ⟨by rfl,?_⟩) hHeld ?_ ?_
       rotate_left
       ·rintro w' ⟨s0,s1⟩
        go_simp
        with_reducible rfl
       rotate_left
       ·simp only [czP]
        rfl
       refine take_ (i := 8) (N := some 22) (v := ?_) (a' := ?_) #[true,true,true,true,true,true,true,true,true,false,false,false,false] rfl rfl (take_ofW HT_.out HW_.out (by kernel_rfl)) (fun _ _ _ h => h) (Or.inl ⟨by rfl,?_⟩) hHeld ?_ ?_
       rotate_left
       ·rintro w' ⟨s0,s1⟩
        go_simp
        with_reducible rfl
       rotate_left
       ·simp only [czP]
        rfl
       refine one_ (i := 9) (N := some 23) #[true,true,true,true,true,true,true,true,true,true,false,false,false] rfl rfl (one_of HT_.out (by kernel_rfl)) (by decide) (fun K hK => ?_);refine goes_ Try.func107 (by kernel_rfl) rfl #[vi (rd l0 aa),vi (rd l1 aa)] (by rfl) rfl rfl Z16x7 ?_
       with_reducible refine (spec_Add.calls (rd l0 aa) (rd l1 aa) aK _ A8.out).mono ?_
       rintro e w' ⟨rfl,⟨nd,rfl⟩⟩
       refine ⟨_,rfl,?_⟩;refine hK.out _ _ ⟨((HB.out.cell (World.block_lt_of_cell? w _ ag)).trans ag),((HB.out.cell (World.block_lt_of_cell? w _ ah)).trans ah)⟩ (fun hHeld => ?_);clear hK K;refine norm_ (a' := ?_) ?_ ?_
       rotate_left
       ·show Act.put _ (some 23) _ = _
        simp only [czP]
        rfl
       refine one_ (i := 10) (N := some 24) #[true,true,true,true,true,true,true,true,true,true,true,false,false] rfl rfl (one_of HT_.out (by kernel_rfl)) (by decide) (fun K hK => ?_);refine value_ (w1 := ?_) (v := ?_) (by rfl) rfl ?_ ?_
       rotate_left 2
       ·go_simp
        constructor
        ·rfl
        ·rfl
       refine hK.out _ _ ⟨(World.cell?_alloc_lt _ _ _ (World.block_lt_of_cell? _ _ (((HB.out.cell (World.block_lt_of_cell? w _ ag)).trans ag)))).trans (((HB.out.cell (World.block_lt_of_cell? w _ ag)).trans ag)),(World.cell?_alloc_lt _ _ _ (World.block_lt_of_cell? _ _ (((HB.out.cell (World.block_lt_of_cell? w _ ah)).trans ah)))).trans (((HB.out.cell (World.block_lt_of_cell? w _ ah)).trans ah))⟩ (fun hHeld => ?_);clear hK K;refine norm_ (a' := ?_) ?_ ?_
       rotate_left
       ·show Act.put _ (some 24) _ = _
        simp only [czP]
        rfl
       refine one_ (i := 11) (N := some 25) #[true,true,true,true,true,true,true,true,true,true,true,true,false] rfl rfl (one_of HT_.out (by kernel_rfl)) (by decide) (fun K hK => ?_);refine Kd.R_append_step (Kd.int .i64) (w0 := w) w.heap.size (by rfl) (.tmp 14) (.tmp 24) 24 3 (vi 0) 8 rfl Try.underlying24 info3 rfl (by decide) (by omega) u5 ai aK [vi aK] (fun _ => True) (fun _ => False) rfl rfl ?aP (fun _ hk => hk.elim) ?aF ?aO ?aB ?aS ?aL ?_
       (case aP => exact rfl)
       (case aB => exact Z16x0)
       (case aF => exact (fun _ _ => trivial))
       (case aO => exact Z16x5)
       (case aS => exact (below_size Z16x0))
       (case aL => have := bJ.out;omega)
       intro cd ch ho hb hg hat;rw [← bB.out] at ho;have aE := mkA (hb);have aG := mkA (ho);clear HB;clear HO_5;have HB := aE;have bE := aG;clear aE aG;clear ho hb hg hat;refine hK.out _ _ ⟨((HB.out.cell (World.block_lt_of_cell? w _ ag)).trans ag),((HB.out.cell (World.block_lt_of_cell? w _ ah)).trans ah)⟩ (fun hHeld => ?_);clear hK K;refine norm_ (a' := ?_) ?_ ?_
       rotate_left
       ·show Act.put _ (some 25) _ = _
        simp only [czP]
        rfl
       refine pure_ (i := 12) (N := some 5) (v := ?_) (a' := ?_) #[true,true,true,true,true,true,true,true,true,true,true,true,true] rfl rfl (any_of HT_.out (by kernel_rfl)) (fun _ _ _ h => h) (Or.inl ⟨by rfl,?_⟩) ?_ ?_
       rotate_left
       ·intro w'
        go_simp
        with_reducible rfl
       rotate_left
       ·simp only [czP]
        rfl
       refine done_ (done_of HT_.out (by kernel_rfl)) ?_
       try go_wp2
       go_roundg k1
       case measure => have := b5.out;omega
       case rel => exact ⟨(bA),(wrap64 (aa + 1)),Z16x3,H',⟨by have := b5.out;omega⟩,⟨by (with_reducible repeat (first | apply Kd.R_alloc | apply Kd.R_drewN | apply Kd.R_drew));exact bE.out⟩,⟨Z16x0⟩⟩
      ·rw [if_neg c9] at H
       exact absurd H (by simp)
     ·rw [if_neg c7] at H
      exact absurd H (by simp)
    ·rw [if_neg c6] at H
     exact absurd H (by simp)
   ·rw [if_neg c5] at H
    have c5b0 : decide (aa < (l0.length : Int)) = false := decide_eq_false c5;clear c5;obtain rfl := Option.some.inj H;simp only [Option.some.injEq,Prod.mk.injEq] at H;obtain ⟨rfl⟩ := H
    go_wp2
    go_ret
    exact ⟨_,by first | rfl | (simp [errW_none,errW_some] <;> rfl) | (simp [*,errW_none,errW_some] <;> rfl),Z16x5,Z16x0⟩

end Go.Proofs.Ytdciagkholijlaa.PFnEntries
