-- Written by this session's changed copy of the kit's printer (wip/patch_print.py): not the kit's own print.
import Derived.Test.YtdciagkholijlaaPFnEntriesx0
namespace Go.Proofs.Ytdciagkholijlaa.PFnEntries
open Go.RowKit Go.Proofs.YtdciagkholijlaaW.PrintWords Go.Proofs.YtdciagkholijlaaW.PrintLast Go.Proofs.YtdciagkholijlaaW.PrintMore
attribute [local go_sem] max2_int min2_int max_two min_two max_three min_three max_four min_four   -- for this text's walks alone
set_option linter.unusedVariables false
set_option linter.unusedSimpArgs false
set_option maxHeartbeats 8000000
set_option maxRecDepth 100000
theorem Z2x0 {p : Prop} (h : p := by repeat (first | (with_reducible first | exact HB.out | apply below_alloc | apply pw_below_drewN | apply below_drew1) | exact HB.out)) : p := h
theorem Z2x1 {p : Prop} (h : p := by first | (rw [add_block];exact ai) | (show (Addr.add _ _).block ≠ _;rw [add_block];exact ai) | exact ai) : p := h
theorem Z2x2 {p : Prop} (h : p := by first | (rw [add_block];exact aj) | (show (Addr.add _ _).block ≠ _;rw [add_block];exact aj) | exact aj) : p := h
theorem Z2x3 {p : Prop} (h : p := by repeat (first | (with_reducible first | exact HB.out | apply below_alloc | apply pw_below_drewN | apply below_drew1 | refine below_set ?_ cj.out) | exact HB.out)) : p := h
theorem Z2x4 {p : Prop} (h : p := by first | (with_reducible assumption) | assumption) : p := h
theorem Z2x5 {p : Prop} (h : p := by have := World.block_lt_of_cell? _ _ ad;first | rwa [add_block] at this | exact this) : p := h
theorem Z2x6 {p : Prop} (h : p := by rw [hg];exact (below_size Z2x0)) : p := h
theorem Z2x7 {p : Prop} (h : p := by repeat (first | (with_reducible first | exact HB.out | apply below_alloc | apply pw_below_drewN | apply below_drew1 | refine below_set ?_ ax.out) | exact HB.out)) : p := h
theorem Z2x8 {p : Prop} (h : p := by (with_reducible repeat (first | refine blk_drewN ?_ _ | refine blk_drew ?_ | refine blk_alloc ?_ _));exact ag.out) : p := h
theorem Z2x9 {p : Prop} (h : p := by first | rfl | (simp [errW_none,errW_some] <;> rfl) | (simp [*,errW_none,errW_some] <;> rfl)) : p := h
theorem Z2x10 {p : Prop} (h : p := by first | rfl | (simp;done) | (simp [*];done)) : p := h

def laws_big.f (l0 : List Int) : Option (Bool) := some (decide ((l0.length : Int) > 1048576))
theorem laws_big.calls (A0 : Option Addr) (c0 : Nat) (l0 : List Int) (r : Bool) (w : World) (bF : Kd.C (Kd.int .u8) w A0 l0.length l0) (bG : l0.length ≤ c0) (h : laws_big.f l0 = some r) :
  Calls Try.prog 7 #[.slice A0 l0.length c0] w fun e w' => e = .returned (.bool r) ∧ Drawn0 w w' := by
 have bb := mkA bF
 have cO := mkA bG
 clear bF bG
 have H : (some (decide ((l0.length : Int) > 1048576))) = some r := h
 clear h
 obtain rfl := Option.some.inj H
 simp only [Option.some.injEq,Prod.mk.injEq] at H
 obtain ⟨rfl⟩ := H
 go_enter Try.func7,Try.ntmps7
 go_wp2
 go_ret
 exact ⟨Z2x10,by repeat (first | exact Drawn0.refl _ | apply Drawn0.step)⟩

def impl_within.f (a0 : Int) (a1 : Int) (a2 : Int) : Option (Bool) := if a0 ≥ a1 then (some (decide (a0 ≤ a2))) else (some false)
theorem impl_within.calls (a0 : Int) (a1 : Int) (a2 : Int) (r : Bool) (w : World) (h : impl_within.f a0 a1 a2 = some r) :
  Calls Try.prog 40 #[vi a0,vi a1,vi a2] w fun e w' => e = .returned (.bool r) ∧ Drawn0 w w' := by
 have H : (if a0 ≥ a1 then (some (decide (a0 ≤ a2))) else (some false)) = some r := h
 clear h
 by_cases c4 : a0 ≥ a1
 ·rw [if_pos c4] at H
  have c4b0 : decide (a1 ≤ a0) = true := decide_eq_true c4
  clear c4
  obtain rfl := Option.some.inj H
  simp only [Option.some.injEq,Prod.mk.injEq] at H
  obtain ⟨rfl⟩ := H
  go_enter Try.func40,Try.ntmps40
  go_wp2
  go_ret
  exact ⟨Z2x10,by repeat (first | exact Drawn0.refl _ | apply Drawn0.step)⟩
 ·rw [if_neg c4] at H
  have c4b0 : decide (a1 ≤ a0) = false := decide_eq_false c4
  clear c4
  obtain rfl := Option.some.inj H
  simp only [Option.some.injEq,Prod.mk.injEq] at H
  obtain ⟨rfl⟩ := H
  go_enter Try.func40,Try.ntmps40
  go_wp2
  go_ret
  exact ⟨Z2x10,by repeat (first | exact Drawn0.refl _ | apply Drawn0.step)⟩

def impl_SetOk.l0 : Nat → List (S70) → List (S70) → Int → Int → Option (Bool)
 | 0,_,_,_,_ => none
 | k + 1,x0,x5,x6,x7 => if x7 < x6 then (if 0 ≤ x7 then (if x7 < (x5.length : Int) then ((impl_within.f ((rd_T70 x5 x7).f0) 0 9999).bind fun t103 => (if t103 = true then ((impl_within.f ((rd_T70 x5 x7).f1) ((rd_T70 x5 x7).f0) 9999).bind fun t104 => (if t104 = true then (if x7 > 0 then (if 0 ≤ (wrap64 (x7 - 1)) then (if (wrap64 (x7 - 1)) < (x0.length : Int) then (if ((rd_T70 x5 x7).f0) ≤ (wrap64 (((rd_T70 x0 (wrap64 (x7 - 1))).f1) + 1)) then (some false) else (impl_SetOk.l0 k x0 x5 x6 (wrap64 (x7 + 1)))) else (none)) else (none)) else (impl_SetOk.l0 k x0 x5 x6 (wrap64 (x7 + 1)))) else (some false))) else (some false))) else (none)) else (none)) else (some true)
def impl_SetOk.f (k : Nat) (l0 : List (S70)) : Option (Bool) := impl_SetOk.l0 k l0 l0 (l0.length : Int) 0
theorem impl_SetOk.calls (k : Nat) (A0 : Option Addr) (c0 : Nat) (l0 : List (S70)) (r : Bool) (w : World) (bF : Kd.C k70 w A0 l0.length l0) (bG : l0.length ≤ c0) (h : impl_SetOk.f k l0 = some r) :
  Calls Try.prog 43 #[.slice A0 l0.length c0] w fun e w' => e = .returned (.bool r) ∧ Below w.heap.size w w' := by
 have cX := Try.underlying70
 have bb := mkA bF
 have cO := mkA bG
 clear bF bG
 have HB := mkA (Below.refl w.heap.size w)
 have H : (impl_SetOk.l0 k l0 l0 (l0.length : Int) 0) = some r := h
 clear h
 have H' := mkA H
 clear H
 go_enter Try.func43,Try.ntmps43
 go_wp2
 repeat (go_quiet (fail);try go_wp2)
 go_loopg [7] k (fun kq v7 w' => ∃ (ab : Int),v7 = vi ab ∧ Aside0 (impl_SetOk.l0 kq l0 l0 (l0.length : Int) ab = some r) ∧ Aside0 (kq ≤ k) ∧ Aside0 (Below w.heap.size w w'))
 case atStart => exact ⟨(0),Z2x10,H',⟨Nat.le_refl _⟩,⟨Z2x0⟩⟩
 case round =>
  clear H'
  obtain ⟨ab,rfl,HA,bQ,HB⟩ := hrel
  cases gk with
  | zero => exact absurd HA.out (by simp [impl_SetOk.l0])
  | succ k1 =>
   have H := HA.out
   clear HA
   simp only [impl_SetOk.l0] at H
   by_cases c2 : ab < (l0.length : Int)
   ·rw [if_pos c2] at H
    have c2b0 : decide (ab < (l0.length : Int)) = true := decide_eq_true c2;clear c2
    by_cases c3 : 0 ≤ ab
    ·rw [if_pos c3] at H
     have c3b0 : decide (0 ≤ ab) = true := decide_eq_true c3;clear c3
     by_cases c4 : ab < (l0.length : Int)
     ·rw [if_pos c4] at H
      have c4b0 : decide (ab < (l0.length : Int)) = true := decide_eq_true c4;clear c4;replace H := Option.bind_eq_some_iff.mp H;obtain ⟨t103,cP,H⟩ := H
      try dsimp only at H
      have A5 := mkA cP;clear cP
      by_cases c6 : t103 = true
      ·subst c6
       rw [if_pos rfl] at H;replace H := Option.bind_eq_some_iff.mp H;obtain ⟨t104,cQ,H⟩ := H
       try dsimp only at H
       have A7 := mkA cQ;clear cQ
       by_cases c8 : t104 = true
       ·subst c8
        rw [if_pos rfl] at H
        by_cases c9 : ab > 0
        ·rw [if_pos c9] at H
         have c9b0 : decide (0 < ab) = true := decide_eq_true c9;clear c9;obtain ⟨ao,aJ⟩ : ∃ j_ : Int,(wrap64 (ab - 1)) = j_ := ⟨_,rfl⟩
         replace H : (if 0 ≤ (ao) then (if (ao) < (l0.length : Int) then (if ((rd_T70 l0 ab).f0) ≤ (wrap64 (((rd_T70 l0 (ao)).f1) + 1)) then (some false) else (impl_SetOk.l0 k1 l0 l0 (l0.length : Int) (wrap64 (ab + 1)))) else (none)) else (none)) = some r := by first | (rw [aJ] at H;exact H) | (simp only [aJ] at H ⊢;exact H)
         (try rw [aJ] at A5)
         (try rw [aJ] at A7)
         have hji10w : (IntKind.i64.wrap (ab - 1)) = ao := (i64_w _).trans aJ
         by_cases bC : 0 ≤ (ao)
         ·rw [if_pos bC] at H
          have c11b0 : decide (0 ≤ (ao)) = true := decide_eq_true bC;clear bC
          by_cases bD : (ao) < (l0.length : Int)
          ·rw [if_pos bD] at H
           have c12b0 : decide ((ao) < (l0.length : Int)) = true := decide_eq_true bD;clear bD
           by_cases bB : ((rd_T70 l0 ab).f0) ≤ (wrap64 (((rd_T70 l0 (ao)).f1) + 1))
           ·rw [if_pos bB] at H
            have c13b0 : decide (((rd_T70 l0 ab).f0) ≤ (wrap64 (((rd_T70 l0 (ao)).f1) + 1))) = true := decide_eq_true bB
            (try (have c13b1 : decide (((rd_T70 l0 ab).f0) ≤ (IntKind.i64.wrap (((rd_T70 l0 (ao)).f1) + 1))) = true := by simp only [i64_w];first | exact decide_eq_true bB | simpa using bB))
            clear bB;obtain rfl := Option.some.inj H;simp only [Option.some.injEq,Prod.mk.injEq] at H;obtain ⟨rfl⟩ := H;have a8 : 0 ≤ (ab : Int) := of_decide_eq_true Z2x4;have aA : ab < (l0.length : Int) := of_decide_eq_true Z2x4;obtain ⟨an,aK,ak,al⟩ := at_T70 bb.out ab a8 aA
            cases aK
            replace ak := czB HB.out ak;replace al := czB HB.out al;replace a8 := eq_true a8;replace aA := eq_true aA
            go_wp2_with (first | ((with_reducible refine gate_dst (N := 4) rfl ?_);refine box_event ?hg (N := 4) ?hd (cs := #[vi 0,vi 0]) (t := 70) ?hr ?_;(case hd => rfl);(case hg => rfl);(case hr => first | (go_simp;done) | (go_simp;rfl));intro aa hg bc hbox hb;have aq := mkA (below_step Z2x0 hb);have ar := mkA (hbox);have av := mkA ((Z2x6 : w.heap.size ≤ aa));have ay := mkA ((Z2x6 : w.heap.size ≤ aa));clear HB;have HB := aq;have af := ar;have ah := av;have ax := ay;clear aq ar av ay;clear hb hbox hg;have bd : bc.cell? ⟨aa,0,none⟩ = some (vi 0) := (blk_cell af.out 0).trans rfl;have bf : bc.cell? ⟨aa,1,none⟩ = some (vi 0) := (blk_cell af.out 1).trans rfl;have bg := blk_frozen af.out 0;have bh := blk_frozen af.out 1) | (go_at_call 40;(with_reducible refine (impl_within.calls ((rd_T70 l0 ab).f0) 0 9999 true _ A5.out).mono ?_);rintro e w' ⟨rfl,⟨nd,rfl⟩⟩;(try first | exact ⟨rfl,_,World.drewN_drewN _ _ _⟩ | exact ⟨rfl,_,Eq.trans (World.drewN_drewN _ _ _) (congrArg (World.drewN _) (Nat.add_assoc _ _ _))⟩)) | (go_at_call 40;(with_reducible refine (impl_within.calls ((rd_T70 l0 ab).f1) ((rd_T70 l0 ab).f0) 9999 true _ A7.out).mono ?_);rintro e w' ⟨rfl,⟨nd,rfl⟩⟩;(try first | exact ⟨rfl,_,World.drewN_drewN _ _ _⟩ | exact ⟨rfl,_,Eq.trans (World.drewN_drewN _ _ _) (congrArg (World.drewN _) (Nat.add_assoc _ _ _))⟩);have az : 0 ≤ ((ao) : Int) := of_decide_eq_true Z2x4;have a6 : (ao) < (l0.length : Int) := of_decide_eq_true Z2x4;obtain ⟨aC,aI,ad,ae⟩ := at_T70 bb.out (ao) az a6;obtain rfl : an = aC := (by injection aI);have ai : an.block ≠ aa := Nat.ne_of_lt (Nat.lt_of_lt_of_le Z2x5 ah.out);have aj : an.block ≠ aa := Nat.ne_of_lt (Nat.lt_of_lt_of_le Z2x5 ah.out);replace ad := czB HB.out ad;replace ae := czB HB.out ae;replace ad := (cell_far (p := ⟨aa,0,none⟩) Z2x1 (vi ((rd_T70 l0 ab).f0))).trans ad;replace ae := (cell_far (p := ⟨aa,0,none⟩) Z2x1 (vi ((rd_T70 l0 ab).f0))).trans ae;replace ad := (cell_far (p := ⟨aa,1,none⟩) Z2x2 (vi ((rd_T70 l0 ab).f1))).trans ad;replace ae := (cell_far (p := ⟨aa,1,none⟩) Z2x2 (vi ((rd_T70 l0 ab).f1))).trans ae;(try have aG := fun (n_ : Nat) => (show ((((bc.drewN n_).setCell ⟨aa,0,none⟩ (vi ((rd_T70 l0 ab).f0))).setCell ⟨aa,1,none⟩ (vi ((rd_T70 l0 ab).f1)))).cell? _ = some _ from ad));(try have aH := fun (n_ : Nat) => (show ((((bc.drewN n_).setCell ⟨aa,0,none⟩ (vi ((rd_T70 l0 ab).f0))).setCell ⟨aa,1,none⟩ (vi ((rd_T70 l0 ab).f1)))).cell? _ = some _ from ae));clear ai;clear aj;replace az := eq_true az;replace a6 := eq_true a6))
            repeat (go_quiet (first | ((with_reducible refine gate_dst (N := 4) rfl ?_);refine box_event ?hg (N := 4) ?hd (cs := #[vi 0,vi 0]) (t := 70) ?hr ?_;(case hd => rfl);(case hg => rfl);(case hr => first | (go_simp;done) | (go_simp;rfl));intro aa hg bc hbox hb;have aq := mkA (below_step Z2x0 hb);have ar := mkA (hbox);have av := mkA ((Z2x6 : w.heap.size ≤ aa));have ay := mkA ((Z2x6 : w.heap.size ≤ aa));clear HB;have HB := aq;have af := ar;have ah := av;have ax := ay;clear aq ar av ay;clear hb hbox hg;have bd : bc.cell? ⟨aa,0,none⟩ = some (vi 0) := (blk_cell af.out 0).trans rfl;have bf : bc.cell? ⟨aa,1,none⟩ = some (vi 0) := (blk_cell af.out 1).trans rfl;have bg := blk_frozen af.out 0;have bh := blk_frozen af.out 1) | (go_at_call 40;(with_reducible refine (impl_within.calls ((rd_T70 l0 ab).f0) 0 9999 true _ A5.out).mono ?_);rintro e w' ⟨rfl,⟨nd,rfl⟩⟩;(try first | exact ⟨rfl,_,World.drewN_drewN _ _ _⟩ | exact ⟨rfl,_,Eq.trans (World.drewN_drewN _ _ _) (congrArg (World.drewN _) (Nat.add_assoc _ _ _))⟩)) | (go_at_call 40;(with_reducible refine (impl_within.calls ((rd_T70 l0 ab).f1) ((rd_T70 l0 ab).f0) 9999 true _ A7.out).mono ?_);rintro e w' ⟨rfl,⟨nd,rfl⟩⟩;(try first | exact ⟨rfl,_,World.drewN_drewN _ _ _⟩ | exact ⟨rfl,_,Eq.trans (World.drewN_drewN _ _ _) (congrArg (World.drewN _) (Nat.add_assoc _ _ _))⟩);have az : 0 ≤ ((ao) : Int) := of_decide_eq_true Z2x4;have a6 : (ao) < (l0.length : Int) := of_decide_eq_true Z2x4;obtain ⟨aC,aI,ad,ae⟩ := at_T70 bb.out (ao) az a6;obtain rfl : an = aC := (by injection aI);have ai : an.block ≠ aa := Nat.ne_of_lt (Nat.lt_of_lt_of_le Z2x5 ah.out);have aj : an.block ≠ aa := Nat.ne_of_lt (Nat.lt_of_lt_of_le Z2x5 ah.out);replace ad := czB HB.out ad;replace ae := czB HB.out ae;replace ad := (cell_far (p := ⟨aa,0,none⟩) Z2x1 (vi ((rd_T70 l0 ab).f0))).trans ad;replace ae := (cell_far (p := ⟨aa,0,none⟩) Z2x1 (vi ((rd_T70 l0 ab).f0))).trans ae;replace ad := (cell_far (p := ⟨aa,1,none⟩) Z2x2 (vi ((rd_T70 l0 ab).f1))).trans ad;replace ae := (cell_far (p := ⟨aa,1,none⟩) Z2x2 (vi ((rd_T70 l0 ab).f1))).trans ae;(try have aG := fun (n_ : Nat) => (show ((((bc.drewN n_).setCell ⟨aa,0,none⟩ (vi ((rd_T70 l0 ab).f0))).setCell ⟨aa,1,none⟩ (vi ((rd_T70 l0 ab).f1)))).cell? _ = some _ from ad));(try have aH := fun (n_ : Nat) => (show ((((bc.drewN n_).setCell ⟨aa,0,none⟩ (vi ((rd_T70 l0 ab).f0))).setCell ⟨aa,1,none⟩ (vi ((rd_T70 l0 ab).f1)))).cell? _ = some _ from ae));clear ai;clear aj;replace az := eq_true az;replace a6 := eq_true a6));try go_wp2_with (first | ((with_reducible refine gate_dst (N := 4) rfl ?_);refine box_event ?hg (N := 4) ?hd (cs := #[vi 0,vi 0]) (t := 70) ?hr ?_;(case hd => rfl);(case hg => rfl);(case hr => first | (go_simp;done) | (go_simp;rfl));intro aa hg bc hbox hb;have aq := mkA (below_step Z2x0 hb);have ar := mkA (hbox);have av := mkA ((Z2x6 : w.heap.size ≤ aa));have ay := mkA ((Z2x6 : w.heap.size ≤ aa));clear HB;have HB := aq;have af := ar;have ah := av;have ax := ay;clear aq ar av ay;clear hb hbox hg;have bd : bc.cell? ⟨aa,0,none⟩ = some (vi 0) := (blk_cell af.out 0).trans rfl;have bf : bc.cell? ⟨aa,1,none⟩ = some (vi 0) := (blk_cell af.out 1).trans rfl;have bg := blk_frozen af.out 0;have bh := blk_frozen af.out 1) | (go_at_call 40;(with_reducible refine (impl_within.calls ((rd_T70 l0 ab).f0) 0 9999 true _ A5.out).mono ?_);rintro e w' ⟨rfl,⟨nd,rfl⟩⟩;(try first | exact ⟨rfl,_,World.drewN_drewN _ _ _⟩ | exact ⟨rfl,_,Eq.trans (World.drewN_drewN _ _ _) (congrArg (World.drewN _) (Nat.add_assoc _ _ _))⟩)) | (go_at_call 40;(with_reducible refine (impl_within.calls ((rd_T70 l0 ab).f1) ((rd_T70 l0 ab).f0) 9999 true _ A7.out).mono ?_);rintro e w' ⟨rfl,⟨nd,rfl⟩⟩;(try first | exact ⟨rfl,_,World.drewN_drewN _ _ _⟩ | exact ⟨rfl,_,Eq.trans (World.drewN_drewN _ _ _) (congrArg (World.drewN _) (Nat.add_assoc _ _ _))⟩);have az : 0 ≤ ((ao) : Int) := of_decide_eq_true Z2x4;have a6 : (ao) < (l0.length : Int) := of_decide_eq_true Z2x4;obtain ⟨aC,aI,ad,ae⟩ := at_T70 bb.out (ao) az a6;obtain rfl : an = aC := (by injection aI);have ai : an.block ≠ aa := Nat.ne_of_lt (Nat.lt_of_lt_of_le Z2x5 ah.out);have aj : an.block ≠ aa := Nat.ne_of_lt (Nat.lt_of_lt_of_le Z2x5 ah.out);replace ad := czB HB.out ad;replace ae := czB HB.out ae;replace ad := (cell_far (p := ⟨aa,0,none⟩) Z2x1 (vi ((rd_T70 l0 ab).f0))).trans ad;replace ae := (cell_far (p := ⟨aa,0,none⟩) Z2x1 (vi ((rd_T70 l0 ab).f0))).trans ae;replace ad := (cell_far (p := ⟨aa,1,none⟩) Z2x2 (vi ((rd_T70 l0 ab).f1))).trans ad;replace ae := (cell_far (p := ⟨aa,1,none⟩) Z2x2 (vi ((rd_T70 l0 ab).f1))).trans ae;(try have aG := fun (n_ : Nat) => (show ((((bc.drewN n_).setCell ⟨aa,0,none⟩ (vi ((rd_T70 l0 ab).f0))).setCell ⟨aa,1,none⟩ (vi ((rd_T70 l0 ab).f1)))).cell? _ = some _ from ad));(try have aH := fun (n_ : Nat) => (show ((((bc.drewN n_).setCell ⟨aa,0,none⟩ (vi ((rd_T70 l0 ab).f0))).setCell ⟨aa,1,none⟩ (vi ((rd_T70 l0 ab).f1)))).cell? _ = some _ from ae));clear ai;clear aj;replace az := eq_true az;replace a6 := eq_true a6)))
            go_ret
            exact ⟨by first | rfl | (simp [errW_none,errW_some] <;> rfl) | (simp only [← aJ];first | rfl | (simp [errW_none,errW_some] <;> rfl)) | (simp [*,errW_none,errW_some] <;> rfl),Z2x7⟩
           ·rw [if_neg bB] at H
            have c13b0 : decide (((rd_T70 l0 ab).f0) ≤ (wrap64 (((rd_T70 l0 (ao)).f1) + 1))) = false := decide_eq_false bB
            (try (have c13b1 : decide (((rd_T70 l0 ab).f0) ≤ (IntKind.i64.wrap (((rd_T70 l0 (ao)).f1) + 1))) = false := by simp only [i64_w];first | exact decide_eq_false bB | simpa using bB))
            clear bB;have H' := mkA H;clear H;have a8 : 0 ≤ (ab : Int) := of_decide_eq_true Z2x4;have aA : ab < (l0.length : Int) := of_decide_eq_true Z2x4;obtain ⟨an,aK,ak,al⟩ := at_T70 bb.out ab a8 aA
            cases aK
            replace ak := czB HB.out ak;replace al := czB HB.out al;replace a8 := eq_true a8;replace aA := eq_true aA
            go_wp2_with (first | ((with_reducible refine gate_dst (N := 4) rfl ?_);refine box_event ?hg (N := 4) ?hd (cs := #[vi 0,vi 0]) (t := 70) ?hr ?_;(case hd => rfl);(case hg => rfl);(case hr => first | (go_simp;done) | (go_simp;rfl));intro aa hg bj hbox hb;have aq := mkA (below_step Z2x0 hb);have ar := mkA (hbox);have av := mkA ((Z2x6 : w.heap.size ≤ aa));have ay := mkA ((Z2x6 : w.heap.size ≤ aa));clear HB;have HB := aq;have af := ar;have ah := av;have ax := ay;clear aq ar av ay;clear hb hbox hg;have bk : bj.cell? ⟨aa,0,none⟩ = some (vi 0) := (blk_cell af.out 0).trans rfl;have bm : bj.cell? ⟨aa,1,none⟩ = some (vi 0) := (blk_cell af.out 1).trans rfl;have bn := blk_frozen af.out 0;have bo := blk_frozen af.out 1) | (go_at_call 40;(with_reducible refine (impl_within.calls ((rd_T70 l0 ab).f0) 0 9999 true _ A5.out).mono ?_);rintro e w' ⟨rfl,⟨nd,rfl⟩⟩;(try first | exact ⟨rfl,_,World.drewN_drewN _ _ _⟩ | exact ⟨rfl,_,Eq.trans (World.drewN_drewN _ _ _) (congrArg (World.drewN _) (Nat.add_assoc _ _ _))⟩)) | (go_at_call 40;(with_reducible refine (impl_within.calls ((rd_T70 l0 ab).f1) ((rd_T70 l0 ab).f0) 9999 true _ A7.out).mono ?_);rintro e w' ⟨rfl,⟨nd,rfl⟩⟩;(try first | exact ⟨rfl,_,World.drewN_drewN _ _ _⟩ | exact ⟨rfl,_,Eq.trans (World.drewN_drewN _ _ _) (congrArg (World.drewN _) (Nat.add_assoc _ _ _))⟩);have az : 0 ≤ ((ao) : Int) := of_decide_eq_true Z2x4;have a6 : (ao) < (l0.length : Int) := of_decide_eq_true Z2x4;obtain ⟨aC,aI,ad,ae⟩ := at_T70 bb.out (ao) az a6;obtain rfl : an = aC := (by injection aI);have ai : an.block ≠ aa := Nat.ne_of_lt (Nat.lt_of_lt_of_le Z2x5 ah.out);have aj : an.block ≠ aa := Nat.ne_of_lt (Nat.lt_of_lt_of_le Z2x5 ah.out);replace ad := czB HB.out ad;replace ae := czB HB.out ae;replace ad := (cell_far (p := ⟨aa,0,none⟩) Z2x1 (vi ((rd_T70 l0 ab).f0))).trans ad;replace ae := (cell_far (p := ⟨aa,0,none⟩) Z2x1 (vi ((rd_T70 l0 ab).f0))).trans ae;replace ad := (cell_far (p := ⟨aa,1,none⟩) Z2x2 (vi ((rd_T70 l0 ab).f1))).trans ad;replace ae := (cell_far (p := ⟨aa,1,none⟩) Z2x2 (vi ((rd_T70 l0 ab).f1))).trans ae;(try have aG := fun (n_ : Nat) => (show ((((bj.drewN n_).setCell ⟨aa,0,none⟩ (vi ((rd_T70 l0 ab).f0))).setCell ⟨aa,1,none⟩ (vi ((rd_T70 l0 ab).f1)))).cell? _ = some _ from ad));(try have aH := fun (n_ : Nat) => (show ((((bj.drewN n_).setCell ⟨aa,0,none⟩ (vi ((rd_T70 l0 ab).f0))).setCell ⟨aa,1,none⟩ (vi ((rd_T70 l0 ab).f1)))).cell? _ = some _ from ae));clear ai;clear aj;replace az := eq_true az;replace a6 := eq_true a6))
            repeat (go_quiet (first | ((with_reducible refine gate_dst (N := 4) rfl ?_);refine box_event ?hg (N := 4) ?hd (cs := #[vi 0,vi 0]) (t := 70) ?hr ?_;(case hd => rfl);(case hg => rfl);(case hr => first | (go_simp;done) | (go_simp;rfl));intro aa hg bj hbox hb;have aq := mkA (below_step Z2x0 hb);have ar := mkA (hbox);have av := mkA ((Z2x6 : w.heap.size ≤ aa));have ay := mkA ((Z2x6 : w.heap.size ≤ aa));clear HB;have HB := aq;have af := ar;have ah := av;have ax := ay;clear aq ar av ay;clear hb hbox hg;have bk : bj.cell? ⟨aa,0,none⟩ = some (vi 0) := (blk_cell af.out 0).trans rfl;have bm : bj.cell? ⟨aa,1,none⟩ = some (vi 0) := (blk_cell af.out 1).trans rfl;have bn := blk_frozen af.out 0;have bo := blk_frozen af.out 1) | (go_at_call 40;(with_reducible refine (impl_within.calls ((rd_T70 l0 ab).f0) 0 9999 true _ A5.out).mono ?_);rintro e w' ⟨rfl,⟨nd,rfl⟩⟩;(try first | exact ⟨rfl,_,World.drewN_drewN _ _ _⟩ | exact ⟨rfl,_,Eq.trans (World.drewN_drewN _ _ _) (congrArg (World.drewN _) (Nat.add_assoc _ _ _))⟩)) | (go_at_call 40;(with_reducible refine (impl_within.calls ((rd_T70 l0 ab).f1) ((rd_T70 l0 ab).f0) 9999 true _ A7.out).mono ?_);rintro e w' ⟨rfl,⟨nd,rfl⟩⟩;(try first | exact ⟨rfl,_,World.drewN_drewN _ _ _⟩ | exact ⟨rfl,_,Eq.trans (World.drewN_drewN _ _ _) (congrArg (World.drewN _) (Nat.add_assoc _ _ _))⟩);have az : 0 ≤ ((ao) : Int) := of_decide_eq_true Z2x4;have a6 : (ao) < (l0.length : Int) := of_decide_eq_true Z2x4;obtain ⟨aC,aI,ad,ae⟩ := at_T70 bb.out (ao) az a6;obtain rfl : an = aC := (by injection aI);have ai : an.block ≠ aa := Nat.ne_of_lt (Nat.lt_of_lt_of_le Z2x5 ah.out);have aj : an.block ≠ aa := Nat.ne_of_lt (Nat.lt_of_lt_of_le Z2x5 ah.out);replace ad := czB HB.out ad;replace ae := czB HB.out ae;replace ad := (cell_far (p := ⟨aa,0,none⟩) Z2x1 (vi ((rd_T70 l0 ab).f0))).trans ad;replace ae := (cell_far (p := ⟨aa,0,none⟩) Z2x1 (vi ((rd_T70 l0 ab).f0))).trans ae;replace ad := (cell_far (p := ⟨aa,1,none⟩) Z2x2 (vi ((rd_T70 l0 ab).f1))).trans ad;replace ae := (cell_far (p := ⟨aa,1,none⟩) Z2x2 (vi ((rd_T70 l0 ab).f1))).trans ae;(try have aG := fun (n_ : Nat) => (show ((((bj.drewN n_).setCell ⟨aa,0,none⟩ (vi ((rd_T70 l0 ab).f0))).setCell ⟨aa,1,none⟩ (vi ((rd_T70 l0 ab).f1)))).cell? _ = some _ from ad));(try have aH := fun (n_ : Nat) => (show ((((bj.drewN n_).setCell ⟨aa,0,none⟩ (vi ((rd_T70 l0 ab).f0))).setCell ⟨aa,1,none⟩ (vi ((rd_T70 l0 ab).f1)))).cell? _ = some _ from ae));clear ai;clear aj;replace az := eq_true az;replace a6 := eq_true a6));try go_wp2_with (first | ((with_reducible refine gate_dst (N := 4) rfl ?_);refine box_event ?hg (N := 4) ?hd (cs := #[vi 0,vi 0]) (t := 70) ?hr ?_;(case hd => rfl);(case hg => rfl);(case hr => first | (go_simp;done) | (go_simp;rfl));intro aa hg bj hbox hb;have aq := mkA (below_step Z2x0 hb);have ar := mkA (hbox);have av := mkA ((Z2x6 : w.heap.size ≤ aa));have ay := mkA ((Z2x6 : w.heap.size ≤ aa));clear HB;have HB := aq;have af := ar;have ah := av;have ax := ay;clear aq ar av ay;clear hb hbox hg;have bk : bj.cell? ⟨aa,0,none⟩ = some (vi 0) := (blk_cell af.out 0).trans rfl;have bm : bj.cell? ⟨aa,1,none⟩ = some (vi 0) := (blk_cell af.out 1).trans rfl;have bn := blk_frozen af.out 0;have bo := blk_frozen af.out 1) | (go_at_call 40;(with_reducible refine (impl_within.calls ((rd_T70 l0 ab).f0) 0 9999 true _ A5.out).mono ?_);rintro e w' ⟨rfl,⟨nd,rfl⟩⟩;(try first | exact ⟨rfl,_,World.drewN_drewN _ _ _⟩ | exact ⟨rfl,_,Eq.trans (World.drewN_drewN _ _ _) (congrArg (World.drewN _) (Nat.add_assoc _ _ _))⟩)) | (go_at_call 40;(with_reducible refine (impl_within.calls ((rd_T70 l0 ab).f1) ((rd_T70 l0 ab).f0) 9999 true _ A7.out).mono ?_);rintro e w' ⟨rfl,⟨nd,rfl⟩⟩;(try first | exact ⟨rfl,_,World.drewN_drewN _ _ _⟩ | exact ⟨rfl,_,Eq.trans (World.drewN_drewN _ _ _) (congrArg (World.drewN _) (Nat.add_assoc _ _ _))⟩);have az : 0 ≤ ((ao) : Int) := of_decide_eq_true Z2x4;have a6 : (ao) < (l0.length : Int) := of_decide_eq_true Z2x4;obtain ⟨aC,aI,ad,ae⟩ := at_T70 bb.out (ao) az a6;obtain rfl : an = aC := (by injection aI);have ai : an.block ≠ aa := Nat.ne_of_lt (Nat.lt_of_lt_of_le Z2x5 ah.out);have aj : an.block ≠ aa := Nat.ne_of_lt (Nat.lt_of_lt_of_le Z2x5 ah.out);replace ad := czB HB.out ad;replace ae := czB HB.out ae;replace ad := (cell_far (p := ⟨aa,0,none⟩) Z2x1 (vi ((rd_T70 l0 ab).f0))).trans ad;replace ae := (cell_far (p := ⟨aa,0,none⟩) Z2x1 (vi ((rd_T70 l0 ab).f0))).trans ae;replace ad := (cell_far (p := ⟨aa,1,none⟩) Z2x2 (vi ((rd_T70 l0 ab).f1))).trans ad;replace ae := (cell_far (p := ⟨aa,1,none⟩) Z2x2 (vi ((rd_T70 l0 ab).f1))).trans ae;(try have aG := fun (n_ : Nat) => (show ((((bj.drewN n_).setCell ⟨aa,0,none⟩ (vi ((rd_T70 l0 ab).f0))).setCell ⟨aa,1,none⟩ (vi ((rd_T70 l0 ab).f1)))).cell? _ = some _ from ad));(try have aH := fun (n_ : Nat) => (show ((((bj.drewN n_).setCell ⟨aa,0,none⟩ (vi ((rd_T70 l0 ab).f0))).setCell ⟨aa,1,none⟩ (vi ((rd_T70 l0 ab).f1)))).cell? _ = some _ from ae));clear ai;clear aj;replace az := eq_true az;replace a6 := eq_true a6)))
            go_roundg k1
            case measure => have := bQ.out;omega
            case rel => exact ⟨(wrap64 (ab + 1)),Z2x10,H',⟨by have := bQ.out;omega⟩,⟨Z2x7⟩⟩
          ·rw [if_neg bD] at H
           exact absurd H (by simp)
         ·rw [if_neg bC] at H
          exact absurd H (by simp)
        ·rw [if_neg c9] at H
         have c9b0 : decide (0 < ab) = false := decide_eq_false c9;clear c9;have H' := mkA H;clear H;have a8 : 0 ≤ (ab : Int) := of_decide_eq_true Z2x4;have aA : ab < (l0.length : Int) := of_decide_eq_true Z2x4;obtain ⟨an,aK,ak,al⟩ := at_T70 bb.out ab a8 aA
         cases aK
         replace ak := czB HB.out ak;replace al := czB HB.out al;replace a8 := eq_true a8;replace aA := eq_true aA
         go_wp2_with (first | ((with_reducible refine gate_dst (N := 4) rfl ?_);refine box_event ?hg (N := 4) ?hd (cs := #[vi 0,vi 0]) (t := 70) ?hr ?_;(case hd => rfl);(case hg => rfl);(case hr => first | (go_simp;done) | (go_simp;rfl));intro aa hg bH hbox hb;have aq := mkA (below_step Z2x0 hb);have ar := mkA (hbox);have av := mkA ((Z2x6 : w.heap.size ≤ aa));have ay := mkA ((Z2x6 : w.heap.size ≤ aa));clear HB;have HB := aq;have af := ar;have ah := av;have ax := ay;clear aq ar av ay;clear hb hbox hg;have bp : bH.cell? ⟨aa,0,none⟩ = some (vi 0) := (blk_cell af.out 0).trans rfl;have bq : bH.cell? ⟨aa,1,none⟩ = some (vi 0) := (blk_cell af.out 1).trans rfl;have br := blk_frozen af.out 0;have bs := blk_frozen af.out 1) | (go_at_call 40;(with_reducible refine (impl_within.calls ((rd_T70 l0 ab).f0) 0 9999 true _ A5.out).mono ?_);rintro e w' ⟨rfl,⟨nd,rfl⟩⟩;(try first | exact ⟨rfl,_,World.drewN_drewN _ _ _⟩ | exact ⟨rfl,_,Eq.trans (World.drewN_drewN _ _ _) (congrArg (World.drewN _) (Nat.add_assoc _ _ _))⟩)) | (go_at_call 40;(with_reducible refine (impl_within.calls ((rd_T70 l0 ab).f1) ((rd_T70 l0 ab).f0) 9999 true _ A7.out).mono ?_);rintro e w' ⟨rfl,⟨nd,rfl⟩⟩;(try first | exact ⟨rfl,_,World.drewN_drewN _ _ _⟩ | exact ⟨rfl,_,Eq.trans (World.drewN_drewN _ _ _) (congrArg (World.drewN _) (Nat.add_assoc _ _ _))⟩)))
         repeat (go_quiet (first | ((with_reducible refine gate_dst (N := 4) rfl ?_);refine box_event ?hg (N := 4) ?hd (cs := #[vi 0,vi 0]) (t := 70) ?hr ?_;(case hd => rfl);(case hg => rfl);(case hr => first | (go_simp;done) | (go_simp;rfl));intro aa hg bH hbox hb;have aq := mkA (below_step Z2x0 hb);have ar := mkA (hbox);have av := mkA ((Z2x6 : w.heap.size ≤ aa));have ay := mkA ((Z2x6 : w.heap.size ≤ aa));clear HB;have HB := aq;have af := ar;have ah := av;have ax := ay;clear aq ar av ay;clear hb hbox hg;have bp : bH.cell? ⟨aa,0,none⟩ = some (vi 0) := (blk_cell af.out 0).trans rfl;have bq : bH.cell? ⟨aa,1,none⟩ = some (vi 0) := (blk_cell af.out 1).trans rfl;have br := blk_frozen af.out 0;have bs := blk_frozen af.out 1) | (go_at_call 40;(with_reducible refine (impl_within.calls ((rd_T70 l0 ab).f0) 0 9999 true _ A5.out).mono ?_);rintro e w' ⟨rfl,⟨nd,rfl⟩⟩;(try first | exact ⟨rfl,_,World.drewN_drewN _ _ _⟩ | exact ⟨rfl,_,Eq.trans (World.drewN_drewN _ _ _) (congrArg (World.drewN _) (Nat.add_assoc _ _ _))⟩)) | (go_at_call 40;(with_reducible refine (impl_within.calls ((rd_T70 l0 ab).f1) ((rd_T70 l0 ab).f0) 9999 true _ A7.out).mono ?_);rintro e w' ⟨rfl,⟨nd,rfl⟩⟩;(try first | exact ⟨rfl,_,World.drewN_drewN _ _ _⟩ | exact ⟨rfl,_,Eq.trans (World.drewN_drewN _ _ _) (congrArg (World.drewN _) (Nat.add_assoc _ _ _))⟩)));try go_wp2_with (first | ((with_reducible refine gate_dst (N := 4) rfl ?_);refine box_event ?hg (N := 4) ?hd (cs := #[vi 0,vi 0]) (t := 70) ?hr ?_;(case hd => rfl);(case hg => rfl);(case hr => first | (go_simp;done) | (go_simp;rfl));intro aa hg bH hbox hb;have aq := mkA (below_step Z2x0 hb);have ar := mkA (hbox);have av := mkA ((Z2x6 : w.heap.size ≤ aa));have ay := mkA ((Z2x6 : w.heap.size ≤ aa));clear HB;have HB := aq;have af := ar;have ah := av;have ax := ay;clear aq ar av ay;clear hb hbox hg;have bp : bH.cell? ⟨aa,0,none⟩ = some (vi 0) := (blk_cell af.out 0).trans rfl;have bq : bH.cell? ⟨aa,1,none⟩ = some (vi 0) := (blk_cell af.out 1).trans rfl;have br := blk_frozen af.out 0;have bs := blk_frozen af.out 1) | (go_at_call 40;(with_reducible refine (impl_within.calls ((rd_T70 l0 ab).f0) 0 9999 true _ A5.out).mono ?_);rintro e w' ⟨rfl,⟨nd,rfl⟩⟩;(try first | exact ⟨rfl,_,World.drewN_drewN _ _ _⟩ | exact ⟨rfl,_,Eq.trans (World.drewN_drewN _ _ _) (congrArg (World.drewN _) (Nat.add_assoc _ _ _))⟩)) | (go_at_call 40;(with_reducible refine (impl_within.calls ((rd_T70 l0 ab).f1) ((rd_T70 l0 ab).f0) 9999 true _ A7.out).mono ?_);rintro e w' ⟨rfl,⟨nd,rfl⟩⟩;(try first | exact ⟨rfl,_,World.drewN_drewN _ _ _⟩ | exact ⟨rfl,_,Eq.trans (World.drewN_drewN _ _ _) (congrArg (World.drewN _) (Nat.add_assoc _ _ _))⟩))))
         go_roundg k1
         case measure => have := bQ.out;omega
         case rel => exact ⟨(wrap64 (ab + 1)),Z2x10,H',⟨by have := bQ.out;omega⟩,⟨Z2x7⟩⟩
       ·replace c8 := Bool.eq_false_iff.mpr c8
        subst c8;rw [if_neg (show ¬ (false = true) by decide)] at H;obtain rfl := Option.some.inj H;simp only [Option.some.injEq,Prod.mk.injEq] at H;obtain ⟨rfl⟩ := H;have a8 : 0 ≤ (ab : Int) := of_decide_eq_true Z2x4;have aA : ab < (l0.length : Int) := of_decide_eq_true Z2x4;obtain ⟨an,aK,ak,al⟩ := at_T70 bb.out ab a8 aA
        cases aK
        replace ak := czB HB.out ak;replace al := czB HB.out al;replace a8 := eq_true a8;replace aA := eq_true aA
        go_wp2_with (first | ((with_reducible refine gate_dst (N := 4) rfl ?_);refine box_event ?hg (N := 4) ?hd (cs := #[vi 0,vi 0]) (t := 70) ?hr ?_;(case hd => rfl);(case hg => rfl);(case hr => first | (go_simp;done) | (go_simp;rfl));intro aa hg bI hbox hb;have aq := mkA (below_step Z2x0 hb);have ar := mkA (hbox);have av := mkA ((Z2x6 : w.heap.size ≤ aa));have ay := mkA ((Z2x6 : w.heap.size ≤ aa));clear HB;have HB := aq;have af := ar;have ah := av;have ax := ay;clear aq ar av ay;clear hb hbox hg;have bu : bI.cell? ⟨aa,0,none⟩ = some (vi 0) := (blk_cell af.out 0).trans rfl;have bw : bI.cell? ⟨aa,1,none⟩ = some (vi 0) := (blk_cell af.out 1).trans rfl;have bz := blk_frozen af.out 0;have b0 := blk_frozen af.out 1) | (go_at_call 40;(with_reducible refine (impl_within.calls ((rd_T70 l0 ab).f0) 0 9999 true _ A5.out).mono ?_);rintro e w' ⟨rfl,⟨nd,rfl⟩⟩;(try first | exact ⟨rfl,_,World.drewN_drewN _ _ _⟩ | exact ⟨rfl,_,Eq.trans (World.drewN_drewN _ _ _) (congrArg (World.drewN _) (Nat.add_assoc _ _ _))⟩)) | (go_at_call 40;(with_reducible refine (impl_within.calls ((rd_T70 l0 ab).f1) ((rd_T70 l0 ab).f0) 9999 false _ A7.out).mono ?_);rintro e w' ⟨rfl,⟨nd,rfl⟩⟩;(try first | exact ⟨rfl,_,World.drewN_drewN _ _ _⟩ | exact ⟨rfl,_,Eq.trans (World.drewN_drewN _ _ _) (congrArg (World.drewN _) (Nat.add_assoc _ _ _))⟩)))
        repeat (go_quiet (first | ((with_reducible refine gate_dst (N := 4) rfl ?_);refine box_event ?hg (N := 4) ?hd (cs := #[vi 0,vi 0]) (t := 70) ?hr ?_;(case hd => rfl);(case hg => rfl);(case hr => first | (go_simp;done) | (go_simp;rfl));intro aa hg bI hbox hb;have aq := mkA (below_step Z2x0 hb);have ar := mkA (hbox);have av := mkA ((Z2x6 : w.heap.size ≤ aa));have ay := mkA ((Z2x6 : w.heap.size ≤ aa));clear HB;have HB := aq;have af := ar;have ah := av;have ax := ay;clear aq ar av ay;clear hb hbox hg;have bu : bI.cell? ⟨aa,0,none⟩ = some (vi 0) := (blk_cell af.out 0).trans rfl;have bw : bI.cell? ⟨aa,1,none⟩ = some (vi 0) := (blk_cell af.out 1).trans rfl;have bz := blk_frozen af.out 0;have b0 := blk_frozen af.out 1) | (go_at_call 40;(with_reducible refine (impl_within.calls ((rd_T70 l0 ab).f0) 0 9999 true _ A5.out).mono ?_);rintro e w' ⟨rfl,⟨nd,rfl⟩⟩;(try first | exact ⟨rfl,_,World.drewN_drewN _ _ _⟩ | exact ⟨rfl,_,Eq.trans (World.drewN_drewN _ _ _) (congrArg (World.drewN _) (Nat.add_assoc _ _ _))⟩)) | (go_at_call 40;(with_reducible refine (impl_within.calls ((rd_T70 l0 ab).f1) ((rd_T70 l0 ab).f0) 9999 false _ A7.out).mono ?_);rintro e w' ⟨rfl,⟨nd,rfl⟩⟩;(try first | exact ⟨rfl,_,World.drewN_drewN _ _ _⟩ | exact ⟨rfl,_,Eq.trans (World.drewN_drewN _ _ _) (congrArg (World.drewN _) (Nat.add_assoc _ _ _))⟩)));try go_wp2_with (first | ((with_reducible refine gate_dst (N := 4) rfl ?_);refine box_event ?hg (N := 4) ?hd (cs := #[vi 0,vi 0]) (t := 70) ?hr ?_;(case hd => rfl);(case hg => rfl);(case hr => first | (go_simp;done) | (go_simp;rfl));intro aa hg bI hbox hb;have aq := mkA (below_step Z2x0 hb);have ar := mkA (hbox);have av := mkA ((Z2x6 : w.heap.size ≤ aa));have ay := mkA ((Z2x6 : w.heap.size ≤ aa));clear HB;have HB := aq;have af := ar;have ah := av;have ax := ay;clear aq ar av ay;clear hb hbox hg;have bu : bI.cell? ⟨aa,0,none⟩ = some (vi 0) := (blk_cell af.out 0).trans rfl;have bw : bI.cell? ⟨aa,1,none⟩ = some (vi 0) := (blk_cell af.out 1).trans rfl;have bz := blk_frozen af.out 0;have b0 := blk_frozen af.out 1) | (go_at_call 40;(with_reducible refine (impl_within.calls ((rd_T70 l0 ab).f0) 0 9999 true _ A5.out).mono ?_);rintro e w' ⟨rfl,⟨nd,rfl⟩⟩;(try first | exact ⟨rfl,_,World.drewN_drewN _ _ _⟩ | exact ⟨rfl,_,Eq.trans (World.drewN_drewN _ _ _) (congrArg (World.drewN _) (Nat.add_assoc _ _ _))⟩)) | (go_at_call 40;(with_reducible refine (impl_within.calls ((rd_T70 l0 ab).f1) ((rd_T70 l0 ab).f0) 9999 false _ A7.out).mono ?_);rintro e w' ⟨rfl,⟨nd,rfl⟩⟩;(try first | exact ⟨rfl,_,World.drewN_drewN _ _ _⟩ | exact ⟨rfl,_,Eq.trans (World.drewN_drewN _ _ _) (congrArg (World.drewN _) (Nat.add_assoc _ _ _))⟩))))
        go_ret
        exact ⟨Z2x9,Z2x7⟩
      ·replace c6 := Bool.eq_false_iff.mpr c6
       subst c6;rw [if_neg (show ¬ (false = true) by decide)] at H;obtain rfl := Option.some.inj H;simp only [Option.some.injEq,Prod.mk.injEq] at H;obtain ⟨rfl⟩ := H;have a8 : 0 ≤ (ab : Int) := of_decide_eq_true Z2x4;have aA : ab < (l0.length : Int) := of_decide_eq_true Z2x4;obtain ⟨an,aK,ak,al⟩ := at_T70 bb.out ab a8 aA
       cases aK
       replace ak := czB HB.out ak;replace al := czB HB.out al;replace a8 := eq_true a8;replace aA := eq_true aA
       go_wp2_with (first | ((with_reducible refine gate_dst (N := 4) rfl ?_);refine box_event ?hg (N := 4) ?hd (cs := #[vi 0,vi 0]) (t := 70) ?hr ?_;(case hd => rfl);(case hg => rfl);(case hr => first | (go_simp;done) | (go_simp;rfl));intro aa hg bJ hbox hb;have aq := mkA (below_step Z2x0 hb);have ar := mkA (hbox);have av := mkA ((Z2x6 : w.heap.size ≤ aa));have ay := mkA ((Z2x6 : w.heap.size ≤ aa));clear HB;have HB := aq;have af := ar;have ah := av;have ax := ay;clear aq ar av ay;clear hb hbox hg;have b1 : bJ.cell? ⟨aa,0,none⟩ = some (vi 0) := (blk_cell af.out 0).trans rfl;have b2 : bJ.cell? ⟨aa,1,none⟩ = some (vi 0) := (blk_cell af.out 1).trans rfl;have b3 := blk_frozen af.out 0;have b4 := blk_frozen af.out 1) | (go_at_call 40;(with_reducible refine (impl_within.calls ((rd_T70 l0 ab).f0) 0 9999 false _ A5.out).mono ?_);rintro e w' ⟨rfl,⟨nd,rfl⟩⟩;(try first | exact ⟨rfl,_,World.drewN_drewN _ _ _⟩ | exact ⟨rfl,_,Eq.trans (World.drewN_drewN _ _ _) (congrArg (World.drewN _) (Nat.add_assoc _ _ _))⟩)))
       repeat (go_quiet (first | ((with_reducible refine gate_dst (N := 4) rfl ?_);refine box_event ?hg (N := 4) ?hd (cs := #[vi 0,vi 0]) (t := 70) ?hr ?_;(case hd => rfl);(case hg => rfl);(case hr => first | (go_simp;done) | (go_simp;rfl));intro aa hg bJ hbox hb;have aq := mkA (below_step Z2x0 hb);have ar := mkA (hbox);have av := mkA ((Z2x6 : w.heap.size ≤ aa));have ay := mkA ((Z2x6 : w.heap.size ≤ aa));clear HB;have HB := aq;have af := ar;have ah := av;have ax := ay;clear aq ar av ay;clear hb hbox hg;have b1 : bJ.cell? ⟨aa,0,none⟩ = some (vi 0) := (blk_cell af.out 0).trans rfl;have b2 : bJ.cell? ⟨aa,1,none⟩ = some (vi 0) := (blk_cell af.out 1).trans rfl;have b3 := blk_frozen af.out 0;have b4 := blk_frozen af.out 1) | (go_at_call 40;(with_reducible refine (impl_within.calls ((rd_T70 l0 ab).f0) 0 9999 false _ A5.out).mono ?_);rintro e w' ⟨rfl,⟨nd,rfl⟩⟩;(try first | exact ⟨rfl,_,World.drewN_drewN _ _ _⟩ | exact ⟨rfl,_,Eq.trans (World.drewN_drewN _ _ _) (congrArg (World.drewN _) (Nat.add_assoc _ _ _))⟩)));try go_wp2_with (first | ((with_reducible refine gate_dst (N := 4) rfl ?_);refine box_event ?hg (N := 4) ?hd (cs := #[vi 0,vi 0]) (t := 70) ?hr ?_;(case hd => rfl);(case hg => rfl);(case hr => first | (go_simp;done) | (go_simp;rfl));intro aa hg bJ hbox hb;have aq := mkA (below_step Z2x0 hb);have ar := mkA (hbox);have av := mkA ((Z2x6 : w.heap.size ≤ aa));have ay := mkA ((Z2x6 : w.heap.size ≤ aa));clear HB;have HB := aq;have af := ar;have ah := av;have ax := ay;clear aq ar av ay;clear hb hbox hg;have b1 : bJ.cell? ⟨aa,0,none⟩ = some (vi 0) := (blk_cell af.out 0).trans rfl;have b2 : bJ.cell? ⟨aa,1,none⟩ = some (vi 0) := (blk_cell af.out 1).trans rfl;have b3 := blk_frozen af.out 0;have b4 := blk_frozen af.out 1) | (go_at_call 40;(with_reducible refine (impl_within.calls ((rd_T70 l0 ab).f0) 0 9999 false _ A5.out).mono ?_);rintro e w' ⟨rfl,⟨nd,rfl⟩⟩;(try first | exact ⟨rfl,_,World.drewN_drewN _ _ _⟩ | exact ⟨rfl,_,Eq.trans (World.drewN_drewN _ _ _) (congrArg (World.drewN _) (Nat.add_assoc _ _ _))⟩))))
       go_ret
       exact ⟨Z2x9,Z2x7⟩
     ·rw [if_neg c4] at H
      exact absurd H (by simp)
    ·rw [if_neg c3] at H
     exact absurd H (by simp)
   ·rw [if_neg c2] at H
    have c2b0 : decide (ab < (l0.length : Int)) = false := decide_eq_false c2;clear c2;obtain rfl := Option.some.inj H;simp only [Option.some.injEq,Prod.mk.injEq] at H;obtain ⟨rfl⟩ := H
    go_wp2
    repeat (go_quiet (fail);try go_wp2)
    go_ret
    exact ⟨Z2x9,Z2x0⟩

def impl_copyInts.f (l0 : List Int) : Option (List Int) := if ([] : List Int).length + l0.length < 17592186044416 then (some (([] : List Int) ++ l0)) else (none)
theorem impl_copyInts.calls (A0 : Option Addr) (c0 : Nat) (l0 : List Int) (r : List Int) (w : World) (bF : Kd.C (Kd.int .i64) w A0 l0.length l0) (bG : l0.length ≤ c0) (h : impl_copyInts.f l0 = some r) :
  Calls Try.prog 71 #[.slice A0 l0.length c0] w fun e w' => ∃ ck : Value,e = .returned (ck) ∧ Kd.R (Kd.int .i64) 3 w' w.heap.size (fun _ => True) ck r ∧ Below w.heap.size w w' := by
 have bb := mkA bF
 have cO := mkA bG
 clear bF bG
 have HB := mkA (Below.refl w.heap.size w)
 have H := h
 unfold impl_copyInts.f at H
 clear h
 by_cases c2 : ([] : List Int).length + l0.length < 17592186044416
 ·rw [if_pos c2] at H
  have cH := mkA c2
  clear c2
  obtain ⟨cI,aV⟩ : ∃ y_ : List Int,y_ = (([] : List Int) ++ l0) := ⟨_,rfl⟩
  replace H : (some cI) = some r := by first | (rw [aV];with_reducible exact H) | (have b9 := (Option.bind_some _ _).symm.trans H;rw [aV];with_reducible exact b9) | (have b9 := (Option.bind_some _ _).symm.trans H;with_reducible exact b9) | with_reducible exact H | (rw [aV];exact H) | exact H
  have cm := mkA aV
  clear aV
  obtain rfl := Option.some.inj H
  simp only [Option.some.injEq,Prod.mk.injEq] at H
  obtain ⟨rfl⟩ := H
  go_enter Try.func71,Try.ntmps71
  go_wp2_with (first | ((with_reducible refine gate_builtin (b := .append) (xs := #[.const (.slice none 0 0),.tmp 3]) rfl ?_);at_builtin;refine Kd.R_append_rows (Kd.int .i64) (w0 := w) w.heap.size rfl (.const (.slice none 0 0)) (.tmp 3) 24 3 (vi 0) 8 rfl Try.underlying24 info3 rfl (by decide) (by omega) (.slice none 0 0) ([] : List Int) l0 _ _ _ (fun _ => True) (fun _ => False) rfl rfl ?aO ?aR (fun _ _ h => h) (fun _ h => h.elim) ?aF ?aB ?aS ?aL ?_;(case aR => repeat (first | exact bb.out | (with_reducible refine Kd.C_alloc ?_ _) | (with_reducible refine Kd.C_drewN ?_ _) | (with_reducible refine Kd.C_drew ?_)));(case aB => exact Z2x0);(case aF => exact (fun _ _ => trivial));(case aO => exact ((Kd.R_nil _ _ _ _ (fun _ => True))));(case aS => exact (below_size Z2x0));(case aL => have := cH.out;omega);intro v107 w3 ho hb hg hat;rw [← cm.out] at ho;have aq := mkA (hb);have ar := mkA (ho);clear HB;have HB := aq;have cn := ar;clear aq ar;clear ho hb hg hat))
  go_ret
  exact ⟨_,Z2x9,by (with_reducible repeat (first | apply Kd.R_alloc | apply Kd.R_drewN | apply Kd.R_drew));exact cn.out,Z2x0⟩
 ·rw [if_neg c2] at H
  exact absurd H (by simp)

def impl_counts.l0 : Nat → List Int → List (List Int) → Int → Int → Option (List Int)
 | 0,_,_,_,_ => none
 | k + 1,x3,cF,cR,ch => if ch < cR then (if 0 ≤ ch then (if ch < (cF.length : Int) then (if x3.length + (rd_L3 cF ch).length < 17592186044416 then (impl_counts.l0 k (x3 ++ (rd_L3 cF ch)) cF cR (wrap64 (ch + 1))) else (none)) else (none)) else (none)) else (some x3)
def impl_counts.f (k : Nat) (aM : Int) (aN : Int) (aP : Int) (aQ : Int) (aE : List Int) (aD : List Int) (au : List (List Int)) : Option (List Int) := (impl_copyInts.f aE).bind fun t110 => (if t110.length + aD.length < 17592186044416 then (impl_counts.l0 k (t110 ++ aD) au (au.length : Int) 0) else (none))
theorem impl_counts.calls (k : Nat) (aM : Int) (aN : Int) (aP : Int) (aQ : Int) (aT : Option Addr) (aU : Nat) (aE : List Int) (aW : Option Addr) (aX : Nat) (aD : List Int) (ba : Option Addr) (aY : Nat) (au : List (List Int)) (r : List Int) (w : World) (bK : Kd.C (Kd.int .i64) w aT aE.length aE) (bL : aE.length ≤ aU) (bM : Kd.C (Kd.int .i64) w aW aD.length aD) (bN : aD.length ≤ aX) (bO : Kd.C (Kd.slice 3 (Kd.int .i64)) w ba au.length au) (bP : au.length ≤ aY) (h : impl_counts.f k aM aN aP aQ aE aD au = some r) :
  Calls Try.prog 65 #[.agg #[vi aM,vi aN,vi aP,vi aQ,.slice aT aE.length aU,.slice aW aD.length aX,.slice ba au.length aY]] w fun e w' => ∃ ck : Value,e = .returned (ck) ∧ Kd.R (Kd.int .i64) 3 w' w.heap.size (fun _ => True) ck r ∧ Below w.heap.size w w' := by
 have cY := Try.underlying27
 have cq := mkA bK
 have cr := mkA bL
 clear bK bL
 have ct := mkA bM
 have cS := mkA bN
 clear bM bN
 have cu := mkA bO
 have cT := mkA bP
 clear bO bP
 have HB := mkA (Below.refl w.heap.size w)
 have H := h
 unfold impl_counts.f at H
 clear h
 replace H := Option.bind_eq_some_iff.mp H
 obtain ⟨t110,cU,H⟩ := H
 try dsimp only at H
 have A2 := mkA cU
 clear cU
 by_cases c3 : t110.length + aD.length < 17592186044416
 ·rw [if_pos c3] at H
  have cJ := mkA c3
  clear c3
  obtain ⟨cv,aZ⟩ : ∃ y_ : List Int,y_ = (t110 ++ aD) := ⟨_,rfl⟩
  replace H : (impl_counts.l0 k cv au (au.length : Int) 0) = some r := by first | (rw [aZ];with_reducible exact H) | (have b9 := (Option.bind_some _ _).symm.trans H;rw [aZ];with_reducible exact b9) | (have b9 := (Option.bind_some _ _).symm.trans H;with_reducible exact b9) | with_reducible exact H | (rw [aZ];exact H) | exact H
  have cw := mkA aZ
  clear aZ
  have H' := mkA H
  clear H
  go_enter Try.func65,Try.ntmps65
  try go_wp2_with (first | ((with_reducible refine gate_dst (N := 1) rfl ?_);refine box_event ?hg (N := 1) ?hd (cs := #[vi aM,vi aN,vi aP,vi aQ,.slice aT aE.length aU,.slice aW aD.length aX,.slice ba au.length aY]) (t := 27) ?hr ?_;(case hd => rfl);(case hg => rfl);(case hr => first | (go_simp;done) | (go_simp;rfl));intro a7 hg w4 hbox hb;have aq := mkA (below_step Z2x0 hb);have ar := mkA (hbox);have av := mkA ((Z2x6 : w.heap.size ≤ a7));have ay := mkA ((Z2x6 : w.heap.size ≤ a7));clear HB;have HB := aq;have ag := ar;have cV := av;have cj := ay;clear aq ar av ay;clear hb hbox hg))
  have aq := mkA (blk_drew ag.out)
  have ar := mkA (below_drew1 HB.out)
  clear ag
  clear HB
  have ag := aq
  have HB := ar
  clear aq ar
  refine start_ (n := 7) (S := fun w' => w'.cell? ⟨a7,0,none⟩ = some (vi aM) ∧ w'.cell? ⟨a7,1,none⟩ = some (vi aN) ∧ w'.cell? ⟨a7,2,none⟩ = some (vi aP) ∧ w'.cell? ⟨a7,3,none⟩ = some (vi aQ) ∧ w'.cell? ⟨a7,4,none⟩ = some (.slice aT aE.length aU) ∧ w'.cell? ⟨a7,5,none⟩ = some (.slice aW aD.length aX) ∧ w'.cell? ⟨a7,6,none⟩ = some (.slice ba au.length aY)) (ds := []) #[false,false,false,false,false,false,false] (by kernel_rfl) rfl rfl ⟨(blk_cell ag.out 0).trans rfl,(blk_cell ag.out 1).trans rfl,(blk_cell ag.out 2).trans rfl,(blk_cell ag.out 3).trans rfl,(blk_cell ag.out 4).trans rfl,(blk_cell ag.out 5).trans rfl,(blk_cell ag.out 6).trans rfl⟩ (fun hHeld => ?_)
  generalize w4.drew = w5 at ag HB hHeld ⊢
  refine pure_ (i := 0) (N := some 6) (v := ?_) (a' := ?_) #[true,false,false,false,false,false,false] rfl rfl (by kernel_rfl) (fun _ _ _ h => h) (Or.inl ⟨by rfl,?_⟩) ?_ ?_
  rotate_left
  ·intro w'
   go_simp
   with_reducible rfl
  rotate_left
  ·simp only [czP]
   rfl
  refine pure_ (i := 3) (N := some 9) (v := ?_) (a' := ?_) #[true,false,false,true,false,false,false] rfl rfl (by kernel_rfl) (fun _ _ _ h => h) (Or.inl ⟨by rfl,?_⟩) ?_ ?_
  rotate_left
  ·intro w'
   go_simp
   with_reducible rfl
  rotate_left
  ·simp only [czP]
   rfl
  refine take_ (i := 1) (N := some 7) (v := ?_) (a' := ?_) #[true,true,false,true,false,false,false] rfl rfl (by kernel_rfl) (fun _ _ _ h => h) (Or.inl ⟨by rfl,?_⟩) hHeld ?_ ?_
  rotate_left
  ·rintro w' ⟨s0,s1,s2,s3,s4,s5,s6⟩
   go_simp
   with_reducible rfl
  rotate_left
  ·simp only [czP]
   rfl
  refine take_ (i := 4) (N := some 10) (v := ?_) (a' := ?_) #[true,true,false,true,true,false,false] rfl rfl (by kernel_rfl) (fun _ _ _ h => h) (Or.inl ⟨by rfl,?_⟩) hHeld ?_ ?_
  rotate_left
  ·rintro w' ⟨s0,s1,s2,s3,s4,s5,s6⟩
   go_simp
   with_reducible rfl
  rotate_left
  ·simp only [czP]
   rfl
  refine one_ (i := 2) (N := some 8) #[true,true,true,true,true,false,false] rfl rfl (by kernel_rfl) (by decide) (fun K hK => ?_)
  refine goes_ Try.func71 (by kernel_rfl) rfl #[.slice aT aE.length aU] (by rfl) rfl rfl (by (try simp only [List.map_toArray,List.map_cons,List.map_nil]);first | done | rfl | (simp only [List.length_drop,List.length_take];rfl)) ?_
  with_reducible refine (impl_copyInts.calls _ _ aE t110 _ ?cx ?cy A2.out).mono ?_
  (case cx => repeat (first | exact (Kd.C_below cq.out HB.out) | (with_reducible refine Kd.C_alloc ?_ _) | (with_reducible refine Kd.C_drewN ?_ _) | (with_reducible refine Kd.C_drew ?_)))
  (case cy => exact cr.out)
  rintro e w6 ⟨cK,rfl,cW,hb⟩
  refine ⟨_,rfl,?_⟩
  have aq := mkA (Kd.R_lower cW (below_size Z2x3))
  have ar := mkA (blk_below (g := a7) (o := .cells #[vi aM,vi aN,vi aP,vi aQ,.slice aT aE.length aU,.slice aW aD.length aX,.slice ba au.length aY] 27 (0,0)) Z2x8 hb)
  have av := mkA (below_step Z2x3 hb)
  clear ag
  clear HB
  have bA := aq
  have ag := ar
  have HB := av
  clear aq ar av
  (try clear hb)
  (try clear db)
  (try clear hk)
  (try clear hi)
  (try clear cW)
  refine hK.out _ _ ⟨(blk_cell ag.out 0).trans rfl,(blk_cell ag.out 1).trans rfl,(blk_cell ag.out 2).trans rfl,(blk_cell ag.out 3).trans rfl,(blk_cell ag.out 4).trans rfl,(blk_cell ag.out 5).trans rfl,(blk_cell ag.out 6).trans rfl⟩ (fun hHeld => ?_)
  clear hK K
  refine norm_ (a' := ?_) ?_ ?_
  rotate_left
  ·show Act.put _ (some 8) _ = _
   simp only [czP]
   rfl
  refine one_ (i := 5) (N := some 11) #[true,true,true,true,true,true,false] rfl rfl (by kernel_rfl) (by decide) (fun K hK => ?_)
  refine Kd.R_append_rows_step (Kd.int .i64) (w0 := w) w.heap.size (by rfl) (.tmp 8) (.tmp 10) 24 3 (vi 0) 8 rfl Try.underlying24 info3 rfl (by decide) (by omega) cK t110 aD _ _ _ (fun _ => True) (fun _ => False) rfl rfl ?aO ?aR (fun _ _ h => h) (fun _ h => h.elim) ?aF ?aB ?aS ?aL ?_
  (case aR => repeat (first | exact (Kd.C_below ct.out HB.out) | (with_reducible refine Kd.C_alloc ?_ _) | (with_reducible refine Kd.C_drewN ?_ _) | (with_reducible refine Kd.C_drew ?_)))
  (case aB => exact Z2x3)
  (case aF => exact (fun _ _ => trivial))
  (case aO => exact (by (with_reducible repeat (first | apply Kd.R_alloc | apply Kd.R_drewN | apply Kd.R_drew));exact bA.out))
  (case aS => exact (below_size Z2x3))
  (case aL => have := cJ.out;omega)
  intro cZ w7 ho hb hg hat
  rw [← cw.out] at ho
  have aq := mkA (blk_grown (g := a7) (o := .cells #[vi aM,vi aN,vi aP,vi aQ,.slice aT aE.length aU,.slice aW aD.length aX,.slice ba au.length aY] 27 (0,0)) Z2x8 hg (Kd.R_ne bA.out ag.out (by decide)))
  have ar := mkA (hb)
  have av := mkA (ho)
  clear ag
  clear HB
  clear bA
  have ag := aq
  have HB := ar
  have cz := av
  clear aq ar av
  clear ho hb hg hat
  refine hK.out _ _ ⟨(blk_cell ag.out 0).trans rfl,(blk_cell ag.out 1).trans rfl,(blk_cell ag.out 2).trans rfl,(blk_cell ag.out 3).trans rfl,(blk_cell ag.out 4).trans rfl,(blk_cell ag.out 5).trans rfl,(blk_cell ag.out 6).trans rfl⟩ (fun hHeld => ?_)
  clear hK K
  refine norm_ (a' := ?_) ?_ ?_
  rotate_left
  ·show Act.put _ (some 11) _ = _
   simp only [czP]
   rfl
  refine pure_ (i := 6) (N := some 3) (v := ?_) (a' := ?_) #[true,true,true,true,true,true,true] rfl rfl (by kernel_rfl) (fun _ _ _ h => h) (Or.inl ⟨by rfl,?_⟩) ?_ ?_
  rotate_left
  ·intro w'
   go_simp
   with_reducible rfl
  rotate_left
  ·simp only [czP]
   rfl
  refine done_ (by kernel_rfl) ?_
  obtain ⟨bR,bS,bT,bU,bV,bW,bX⟩ := cz7 ag.out
  obtain ⟨bY,bZ,b_,ca,cb,cc,cd⟩ := fz7 ag.out
  try go_wp2
  go_loopg [3,15] k (fun kq v3 c_ w' => ∃ (b8 : List Int) (aw : Int),c_ = vi aw ∧ Aside0 (impl_counts.l0 kq b8 au (au.length : Int) aw = some r) ∧ Aside0 (kq ≤ k) ∧ Aside0 (Kd.R (Kd.int .i64) 3 w' w.heap.size (fun _ => True) v3 b8) ∧ Aside0 (w'.heap[a7]? = some (.cells #[vi aM,vi aN,vi aP,vi aQ,(.slice aT aE.length aU),(.slice aW aD.length aX),(.slice ba au.length aY)] 27 (0,0))) ∧ Aside0 (Below w.heap.size w w'))
  case atStart => exact ⟨(cv),(0),Z2x10,H',⟨Nat.le_refl _⟩,⟨by (with_reducible repeat (first | apply Kd.R_alloc | apply Kd.R_drewN | apply Kd.R_drew));exact cz.out⟩,⟨Z2x8⟩,⟨Z2x3⟩⟩
  case round =>
   clear H'
   try clear p2
   try clear c3
   try clear c6
   try clear c7
   try clear bR bS bT bU bV bW bX
   try clear bY bZ b_ ca cb cc cd
   (try clear ag)
   obtain ⟨b8,aw,rfl,HA,bQ,HO_3,ag,HB⟩ := hrel
   cases gk with
   | zero => exact absurd HA.out (by simp [impl_counts.l0])
   | succ k1 =>
    have H := HA.out;clear HA;simp only [impl_counts.l0] at H
    by_cases c9 : aw < (au.length : Int)
    ·rw [if_pos c9] at H
     have c9b0 : decide (aw < (au.length : Int)) = true := decide_eq_true c9;clear c9
     by_cases c10 : 0 ≤ aw
     ·rw [if_pos c10] at H
      have c10b0 : decide (0 ≤ aw) = true := decide_eq_true c10;clear c10
      by_cases bC : aw < (au.length : Int)
      ·rw [if_pos bC] at H
       have c11b0 : decide (aw < (au.length : Int)) = true := decide_eq_true bC;clear bC
       by_cases bD : b8.length + (rd_L3 au aw).length < 17592186044416
       ·rw [if_pos bD] at H
        have cA := mkA bD;clear bD;obtain ⟨cB,a_⟩ : ∃ y_ : List Int,y_ = (b8 ++ (rd_L3 au aw)) := ⟨_,rfl⟩
        replace H : (impl_counts.l0 k1 cB au (au.length : Int) (wrap64 (aw + 1))) = some r := by first | (rw [a_];with_reducible exact H) | (have b9 := (Option.bind_some _ _).symm.trans H;rw [a_];with_reducible exact b9) | (have b9 := (Option.bind_some _ _).symm.trans H;with_reducible exact b9) | with_reducible exact H | (rw [a_];exact H) | exact H
        have cC := mkA a_;clear a_;have H' := mkA H;clear H;have cf : 0 ≤ (aw : Int) := of_decide_eq_true Z2x4;have cg : aw < (au.length : Int) := of_decide_eq_true Z2x4;obtain ⟨cD,cL,cM,cN,b5,b6,b7⟩ := at_L3 cu.out aw cf cg
        cases cN
        replace b5 := czB HB.out b5;have bE := mkA b7;have cG := mkA b6;clear b7 b6;replace cf := eq_true cf;replace cg := eq_true cg
        go_wp2_with (first | ((with_reducible refine gate_builtin (b := .append) (xs := #[.tmp 19,.tmp 20]) rfl ?_);at_builtin;refine Kd.R_append_rows (Kd.int .i64) (w0 := w) w.heap.size rfl (.tmp 19) (.tmp 20) 24 3 (vi 0) 8 rfl Try.underlying24 info3 rfl (by decide) (by omega) u3 b8 (rd_L3 au aw) _ _ _ (fun _ => True) (fun _ => False) rfl rfl ?aO ?aR (fun _ _ h => h) (fun _ h => h.elim) ?aF ?aB ?aS ?aL ?_;(case aR => repeat (first | exact (Kd.C_below bE.out HB.out) | (with_reducible refine Kd.C_alloc ?_ _) | (with_reducible refine Kd.C_drewN ?_ _) | (with_reducible refine Kd.C_drew ?_)));(case aB => exact Z2x3);(case aF => exact (fun _ _ => trivial));(case aO => exact (by (with_reducible repeat (first | apply Kd.R_alloc | apply Kd.R_drewN | apply Kd.R_drew));exact HO_3.out));(case aS => exact (below_size Z2x3));(case aL => have := cA.out;omega);intro da dc ho hb hg hat;rw [← cC.out] at ho;have aq := mkA (blk_grown (g := a7) (o := .cells #[vi aM,vi aN,vi aP,vi aQ,.slice aT aE.length aU,.slice aW aD.length aX,.slice (some cD) au.length aY] 27 (0,0)) Z2x8 hg (Kd.R_ne HO_3.out ag.out (by decide)));have ar := mkA (hb);have av := mkA (ho);clear ag;clear HB;clear HO_3;have ag := aq;have HB := ar;have cE := av;clear aq ar av;clear ho hb hg hat))
        go_roundg k1
        case measure => have := bQ.out;omega
        case rel => exact ⟨(cB),(wrap64 (aw + 1)),Z2x10,H',⟨by have := bQ.out;omega⟩,⟨by (with_reducible repeat (first | apply Kd.R_alloc | apply Kd.R_drewN | apply Kd.R_drew));exact cE.out⟩,⟨Z2x8⟩,⟨Z2x3⟩⟩
       ·rw [if_neg bD] at H
        exact absurd H (by simp)
      ·rw [if_neg bC] at H
       exact absurd H (by simp)
     ·rw [if_neg c10] at H
      exact absurd H (by simp)
    ·rw [if_neg c9] at H
     have c9b0 : decide (aw < (au.length : Int)) = false := decide_eq_false c9;clear c9;obtain rfl := Option.some.inj H;simp only [Option.some.injEq,Prod.mk.injEq] at H;obtain ⟨rfl⟩ := H
     go_wp2
     go_ret
     exact ⟨_,Z2x9,by (with_reducible repeat (first | apply Kd.R_alloc | apply Kd.R_drewN | apply Kd.R_drew));exact HO_3.out,Z2x3⟩
 ·rw [if_neg c3] at H
  exact absurd H (by simp)

end Go.Proofs.Ytdciagkholijlaa.PFnEntries
