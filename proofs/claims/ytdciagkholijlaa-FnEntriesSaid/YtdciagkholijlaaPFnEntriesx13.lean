-- Written by this session's changed copy of the kit's printer (wip/patch_print.py): not the kit's own print.
import Derived.Test.YtdciagkholijlaaPFnEntriesx0
import Derived.Test.YtdciagkholijlaaPFnEntriesx12
namespace Go.Proofs.Ytdciagkholijlaa.PFnEntries
open Go.RowKit Go.Proofs.YtdciagkholijlaaW.PrintWords Go.Proofs.YtdciagkholijlaaW.PrintLast Go.Proofs.YtdciagkholijlaaW.PrintMore
attribute [local go_sem] max2_int min2_int max_two min_two max_three min_three max_four min_four   -- for this text's walks alone
set_option linter.unusedVariables false
set_option linter.unusedSimpArgs false
set_option maxHeartbeats 8000000
set_option maxRecDepth 100000
theorem Z13x0 {p : Prop} (h : p := by repeat (first | (with_reducible first | exact HB.out | apply below_alloc | apply pw_below_drewN | apply below_drew1) | exact HB.out)) : p := h
theorem Z13x1 {p : Prop} (h : p := by repeat (first | (with_reducible first | exact HB.out | apply below_alloc | apply pw_below_drewN | apply below_drew1 | refine below_set ?_ aE.out) | exact HB.out)) : p := h
theorem Z13x2 {p : Prop} (h : p := by (with_reducible repeat (first | refine blk_drewN ?_ _ | refine blk_drew ?_ | refine blk_alloc ?_ _));refine blk_put (cs := #[vi ((rd_T70 aa ab).f0),vi 0]) ?_ 1 _ rfl;(with_reducible repeat (first | refine blk_drewN ?_ _ | refine blk_drew ?_ | refine blk_alloc ?_ _));refine blk_put (cs := #[vi 0,vi 0]) ?_ 0 _ rfl;(with_reducible repeat (first | refine blk_drewN ?_ _ | refine blk_drew ?_ | refine blk_alloc ?_ _));exact ae.out) : p := h
theorem Z13x3 {p : Prop} (h : p := by (with_reducible repeat (first | apply Kd.R_alloc | apply Kd.R_drewN | apply Kd.R_drew));exact Kd.R_mono (Kd.R_far (p := ⟨ad,1,none⟩) (Kd.R_far (p := ⟨ad,0,none⟩) (Kd.R_mono HO_12.out (fun k_ hk => (⟨hk,hk.2⟩ : _ ∧ k_ ≠ ad))) (fun _ hk => hk.2) (vi ((rd_T70 aa ab).f0))) (fun _ hk => hk.2) (vi ((rd_T70 aa ab).f1))) (fun _ hk => ⟨hk.1.1,hk.1.2⟩)) : p := h
theorem Z13x4 {p : Prop} (h : p := by (with_reducible repeat (first | apply Kd.R_alloc | apply Kd.R_drewN | apply Kd.R_drew));exact Kd.R_mono (Kd.R_far (p := ⟨ad,1,none⟩) (Kd.R_far (p := ⟨ad,0,none⟩) (Kd.R_mono HO_4.out (fun k_ hk => (⟨hk,hk.2⟩ : _ ∧ k_ ≠ ad))) (fun _ hk => hk.2) (vi ((rd_T70 aa ab).f0))) (fun _ hk => hk.2) (vi ((rd_T70 aa ab).f1))) (fun _ hk => ⟨hk.1.1,hk.1.2⟩)) : p := h
theorem Z13x5 {p : Prop} (h : p := by first | (with_reducible assumption) | assumption) : p := h
theorem Z13x6 {p : Prop} (h : p := by (with_reducible repeat (first | apply Kd.R_alloc | apply Kd.R_drewN | apply Kd.R_drew));exact HO_12.out) : p := h
theorem Z13x7 {p : Prop} (h : p := by (with_reducible repeat (first | apply Kd.R_alloc | apply Kd.R_drewN | apply Kd.R_drew));exact HO_4.out) : p := h
theorem Z13x8 {p : Prop} (h : p := by (with_reducible repeat (first | refine blk_drewN ?_ _ | refine blk_drew ?_ | refine blk_alloc ?_ _));exact ae.out) : p := h

def impl_union.l0 : Nat → List (S70) → List (S70) → Int → Int → Option ((List (S70)))
 | 0,_,_,_,_ => none
 | k + 1,x4,aW,bM,aJ => if aJ < bM then (if 0 ≤ aJ then (if aJ < (aW.length : Int) then (if (x4.length : Int) > 0 then (if 0 ≤ (wrap64 ((x4.length : Int) - 1)) then (if (wrap64 ((x4.length : Int) - 1)) < (x4.length : Int) then (if ((rd_T70 aW aJ).f0) ≤ (wrap64 (((rd_T70 x4 (wrap64 ((x4.length : Int) - 1))).f1) + 1)) then (impl_union.l0 k (x4.set ((wrap64 ((x4.length : Int) - 1)) : Int).toNat (⟨(rd_T70 x4 (wrap64 ((x4.length : Int) - 1))).f0,mx ((rd_T70 x4 (wrap64 ((x4.length : Int) - 1))).f1) ((rd_T70 aW aJ).f1)⟩ : S70)) aW bM (wrap64 (aJ + 1))) else (if x4.length < 8796093022208 then (impl_union.l0 k (x4 ++ [(⟨(rd_T70 aW aJ).f0,(rd_T70 aW aJ).f1⟩ : S70)]) aW bM (wrap64 (aJ + 1))) else (none))) else (none)) else (none)) else (if x4.length < 8796093022208 then (impl_union.l0 k (x4 ++ [(⟨(rd_T70 aW aJ).f0,(rd_T70 aW aJ).f1⟩ : S70)]) aW bM (wrap64 (aJ + 1))) else (none))) else (none)) else (none)) else (some x4)
def impl_union.f (k : Nat) (l0 : List (S70)) : Option ((List (S70))) := (impl_copySet.f l0).bind fun ak => ((slices_SortFunc_impl_Span.f ak).bind fun aY => (impl_union.l0 k ([] : List (S70)) aY (ak.length : Int) 0))
def impl_union.T8 : Bool × List (List Nat × List Nat) := (true,[([],[]),([0],[0]),([1],[1]),([2],[2]),([3,2],[2,3]),([2],[2]),([2],[2]),([6,2],[2,6]),([5,7,2],[2,5,7]),([8,2],[2,8]),([9,2],[2,9]),([10,2],[2,10]),([4,11,2],[2,4,11]),([2,12],[2,12])])
def impl_union.B8 : List Nat := [0,1,3,7,15,7,7,71,231,487,999,2023,4095,8191]
theorem impl_union.tab8 : rtab .any (opsOf Try.f89 8) = impl_union.T8 := by kernel_rfl
theorem impl_union.bits8 : waitsOk impl_union.T8.2 impl_union.B8 = true := by kernel_rfl
def impl_union.T9 : Bool × List (List Nat × List Nat) := (true,[([],[]),([],[]),([1],[1]),([],[]),([],[]),([4],[4]),([3,5],[3,5]),([6],[6]),([7],[7]),([],[]),([9],[9]),([8,10],[8,10]),([0,2,0,1,2,3,4,5,6,7,8,9,10,11],[0,2]),([12,0,1,2,3,4,5,6,7,8,9,10,11],[12]),([13,11,0,1,2,3,4,5,6,7,8,9,10,11],[11,13])])
def impl_union.B9 : List Nat := [0,0,2,0,0,16,56,120,248,0,512,2040,4095,8191,16383]
theorem impl_union.tab9 : rtab .any (opsOf Try.f89 9) = impl_union.T9 := by kernel_rfl
theorem impl_union.bits9 : waitsOk impl_union.T9.2 impl_union.B9 = true := by kernel_rfl
theorem impl_union.calls (k : Nat) (A0 : Option Addr) (c0 : Nat) (l0 : List (S70)) (r : List (S70)) (w : World) (cA : Kd.C k70 w A0 l0.length l0) (cB : l0.length ≤ c0) (h : impl_union.f k l0 = some r) :
  Calls Try.prog 89 #[.slice A0 l0.length c0] w fun e w' => ∃ cC : Value,e = .returned (cC) ∧ Kd.R k70 70 w' w.heap.size (fun _ => True) cC r ∧ Below w.heap.size w w' := by
 have cJ := Try.underlying70
 have cK := mkA cA
 have cL := mkA cB
 clear cA cB
 have HB := mkA (Below.refl w.heap.size w)
 have H := h
 unfold impl_union.f at H
 clear h
 replace H := Option.bind_eq_some_iff.mp H
 obtain ⟨ak,cD,H⟩ := H
 try dsimp only at H
 have A2 := mkA cD
 clear cD
 replace H := Option.bind_eq_some_iff.mp H
 obtain ⟨aY,cE,H⟩ := H
 try dsimp only at H
 have A3 := mkA cE
 clear cE
 have H' := mkA H
 clear H
 go_enter Try.func89,Try.ntmps89
 go_wp2_with (first | ((with_reducible refine gate_callee (f := 90) rfl ?_);refine goesL_ (some 9) rfl rfl Try.func90 (by kernel_rfl) rfl #[.slice A0 l0.length c0] rfl (by (try simp only [List.map_toArray,List.map_cons,List.map_nil]);first | done | rfl | (simp only [List.length_drop,List.length_take];rfl)) ?_;(with_reducible refine (impl_copySet.calls _ _ l0 ak _ ?aK ?aM A2.out).mono ?_);(case aK => repeat (first | exact cK.out | (with_reducible refine Kd.C_alloc ?_ _) | (with_reducible refine Kd.C_drewN ?_ _) | (with_reducible refine Kd.C_drew ?_)));(case aM => exact cL.out);rintro e w4 ⟨cM,rfl,cF,hb⟩;refine ⟨_,rfl,?_⟩;have ai := mkA (Kd.R_lower cF (below_size Z13x0));have aj := mkA (below_step Z13x0 hb);clear HB;have ax := ai;have HB := aj;clear ai aj;(try clear hb);(try clear cZ);(try clear hk);(try clear hi);(try clear cF);obtain ⟨bz,aI,cN⟩ := Kd.R_slice ax.out;subst cN) | ((with_reducible refine gate_callee (f := 102) rfl ?_);refine goesL_ (some 11) rfl rfl Try.func102 (by kernel_rfl) rfl #[.slice bz ak.length aI,.func (.func 103) #[] #[]] rfl (by (try simp only [List.map_toArray,List.map_cons,List.map_nil]);first | done | rfl | (simp only [List.length_drop,List.length_take];rfl)) ?_;(with_reducible refine (slices_SortFunc_impl_Span.calls (fun k_ => some k_ = (.slice bz ak.length aI : Value).ownBlock) (.slice bz ak.length aI) ak  aY w _ ?aK ?aM A3.out).mono ?_);(case aK => exact Z13x0);(case aM => exact Kd.R_tight rfl ax.out);rintro e w6 ⟨rfl,cG,hb,hkp⟩;refine ⟨_,rfl,?_⟩;have ai := mkA (Kd.R_reok rfl cG (fun k_ e_ => ax.out.1 k_ e_));have aj := mkA (hb);clear ax;clear HB;have ax := ai;have HB := aj;clear ai aj;(try clear hb);(try clear hkp);(try clear cG)))
 go_loopg [4,14] k (fun kq v4 cO w' => ∃ (af : List (S70)) (aa : List (S70)) (ab : Int),cO = vi ab ∧ Aside0 (impl_union.l0 kq af aa (ak.length : Int) ab = some r) ∧ Aside0 (kq ≤ k) ∧ Aside0 (Kd.R k70 70 w' w.heap.size (fun k_ => some k_ ≠ ((.slice bz ak.length aI) : Value).ownBlock) v4 af) ∧ Aside0 (Kd.R k70 70 w' w.heap.size (fun k_ => some k_ ≠ (v4 : Value).ownBlock) (.slice bz ak.length aI) aa) ∧ Aside0 (Below w.heap.size w w'))
 case atStart => exact ⟨(([] : List (S70))),(aY),(0),(by first | rfl | (simp;done) | (simp [*];done)),H',⟨Nat.le_refl _⟩,⟨by first | exact Kd.R_nil _ _ _ _ _ | exact Kd.N_nil _ _ _ _ _ | exact Kd.V_nil _ _ _ _ _ | exact Kd.Q_nil _ _ _ _ _ | exact Kd.S_nil _ _ _ _ _⟩,⟨by (with_reducible repeat (first | apply Kd.R_alloc | apply Kd.R_drewN | apply Kd.R_drew));exact Kd.R_mono ax.out (fun _ hk => (by simp [Value.ownBlock]))⟩,⟨Z13x0⟩⟩
 case round =>
  clear H'
  try clear c1
  try clear p2
  obtain ⟨af,aa,ab,rfl,HA,bw,HO_4,HO_12,HB⟩ := hrel
  have ah := (Kd.R_reads' HO_12.out).1
  rw [ah] at HO_12
  (try simp only [ah])
  (try simp only [ah] at HO_4)
  cases gk with
  | zero => exact absurd HA.out (by simp [impl_union.l0])
  | succ k1 =>
   have H := HA.out
   clear HA
   simp only [impl_union.l0] at H
   by_cases c7 : ab < (ak.length : Int)
   ·rw [if_pos c7] at H
    have c7b0 : decide (ab < (ak.length : Int)) = true := decide_eq_true c7;clear c7
    by_cases c8 : 0 ≤ ab
    ·rw [if_pos c8] at H
     have c8b0 : decide (0 ≤ ab) = true := decide_eq_true c8;clear c8
     by_cases c9 : ab < (aa.length : Int)
     ·rw [if_pos c9] at H
      have c9b0 : decide (ab < (aa.length : Int)) = true := decide_eq_true c9;clear c9
      by_cases c10 : (af.length : Int) > 0
      ·rw [if_pos c10] at H
       have c10b0 : decide (0 < (af.length : Int)) = true := decide_eq_true c10
       (try (have c10b1 : decide (0 < af.length) = true := decide_eq_true (by omega)))
       (try (have c10b2 : (0 < af.length) = True := eq_true (by omega)))
       have c10b3 : decide (0 < af.length) = true := decide_eq_true (by omega);clear c10;obtain ⟨ag,aN⟩ : ∃ j_ : Int,(wrap64 ((af.length : Int) - 1)) = j_ := ⟨_,rfl⟩
       replace H : (if 0 ≤ (ag) then (if (ag) < (af.length : Int) then (if ((rd_T70 aa ab).f0) ≤ (wrap64 (((rd_T70 af (ag)).f1) + 1)) then (impl_union.l0 k1 (af.set ((ag) : Int).toNat (⟨(rd_T70 af (ag)).f0,mx ((rd_T70 af (ag)).f1) ((rd_T70 aa ab).f1)⟩ : S70)) aa (ak.length : Int) (wrap64 (ab + 1))) else (if af.length < 8796093022208 then (impl_union.l0 k1 (af ++ [(⟨(rd_T70 aa ab).f0,(rd_T70 aa ab).f1⟩ : S70)]) aa (ak.length : Int) (wrap64 (ab + 1))) else (none))) else (none)) else (none)) = some r := by first | (rw [aN] at H;exact H) | (simp only [aN] at H ⊢;exact H)
       have hji11w : (IntKind.i64.wrap ((af.length : Int) - 1)) = ag := (i64_w _).trans aN
       by_cases bN : 0 ≤ (ag)
       ·rw [if_pos bN] at H
        have c12b0 : decide (0 ≤ (ag)) = true := decide_eq_true bN;clear bN
        by_cases bO : (ag) < (af.length : Int)
        ·rw [if_pos bO] at H
         have c13b0 : decide ((ag) < (af.length : Int)) = true := decide_eq_true bO;clear bO
         by_cases aX : ((rd_T70 aa ab).f0) ≤ (wrap64 (((rd_T70 af (ag)).f1) + 1))
         ·rw [if_pos aX] at H
          have c14b0 : decide (((rd_T70 aa ab).f0) ≤ (wrap64 (((rd_T70 af (ag)).f1) + 1))) = true := decide_eq_true aX
          (try (have c14b1 : decide (((rd_T70 aa ab).f0) ≤ (IntKind.i64.wrap (((rd_T70 af (ag)).f1) + 1))) = true := by simp only [i64_w];first | exact decide_eq_true aX | simpa using aX))
          clear aX;obtain ⟨aA,aQ⟩ : ∃ j_ : Int,(mx ((rd_T70 af (ag)).f1) ((rd_T70 aa ab).f1)) = j_ := ⟨_,rfl⟩
          replace H : (impl_union.l0 k1 (af.set ((ag) : Int).toNat (⟨(rd_T70 af (ag)).f0,aA⟩ : S70)) aa (ak.length : Int) (wrap64 (ab + 1))) = some r := by first | (rw [aQ] at H;exact H) | (simp only [aQ] at H ⊢;exact H)
          have cn : (if ((rd_T70 af (ag)).f1) < ((rd_T70 aa ab).f1) then ((rd_T70 aa ab).f1) else ((rd_T70 af (ag)).f1)) = aA := aQ;obtain ⟨b0,a1⟩ : ∃ y_ : List (S70),y_ = (af.set ((ag) : Int).toNat (⟨(rd_T70 af (ag)).f0,aA⟩ : S70)) := ⟨_,rfl⟩
          replace H : (impl_union.l0 k1 b0 aa (ak.length : Int) (wrap64 (ab + 1))) = some r := by first | (rw [a1];with_reducible exact H) | (have aR := (Option.bind_some _ _).symm.trans H;rw [a1];with_reducible exact aR) | (have aR := (Option.bind_some _ _).symm.trans H;with_reducible exact aR) | with_reducible exact H | (rw [a1];exact H) | exact H
          have b1 := mkA a1;clear a1;have H' := mkA H;clear H;have av : 0 ≤ (ab : Int) := of_decide_eq_true Z13x5;have aw : ab < (aa.length : Int) := of_decide_eq_true Z13x5;obtain ⟨ar,aT,aG,aH⟩ := at_T70 (Kd.R_reads' HO_12.out).2.2 ab av aw
          cases aT
          replace av := eq_true av;replace aw := eq_true aw
          try go_wp2_with (first | ((with_reducible refine gate_dst (N := 6) rfl ?_);refine box_event ?hg (N := 6) ?hd (cs := #[vi 0,vi 0]) (t := 70) ?hr ?_;(case hd => rfl);(case hg => rfl);(case hr => first | (go_simp;done) | (go_simp;rfl));intro ad hg bd hbox hb;have ai := mkA (Kd.R_below (Kd.R_elderB Z13x7 ad (Nat.le_of_eq hg.symm)) hb);have aj := mkA (Kd.R_below (Kd.R_elderB Z13x6 ad (Nat.le_of_eq hg.symm)) hb);have ao := mkA (below_step Z13x0 hb);have aq := mkA (hbox);have aZ := mkA ((by rw [hg];exact (below_size Z13x0) : w.heap.size ≤ ad));have a_ := mkA ((by rw [hg];exact (below_size Z13x0) : w.heap.size ≤ ad));clear HO_4;clear HO_12;clear HB;have HO_4 := ai;have HO_12 := aj;have HB := ao;have ae := aq;have ba := aZ;have aE := a_;clear ai aj ao aq aZ a_;clear hb hbox hg;have bP : bd.cell? ⟨ad,0,none⟩ = some (vi 0) := (blk_cell ae.out 0).trans rfl;have bQ : bd.cell? ⟨ad,1,none⟩ = some (vi 0) := (blk_cell ae.out 1).trans rfl;have bR := blk_frozen ae.out 0;have bS := blk_frozen ae.out 1;obtain ⟨b2,b3,cq⟩ := Kd.R_slice HO_4.out;subst cq))
          have ai : Aside0 (Kd.R k70 70 ((bd.setCell ⟨ad,0,none⟩ (vi ((rd_T70 aa ab).f0))).setCell ⟨ad,1,none⟩ (vi ((rd_T70 aa ab).f1))) w.heap.size (fun k_ => some k_ ≠ (.slice (some ar) aa.length aI : Value).ownBlock ∧ k_ ≠ ad) (.slice b2 af.length b3) af) := ⟨Z13x4⟩;have aj : Aside0 (Kd.R k70 70 ((bd.setCell ⟨ad,0,none⟩ (vi ((rd_T70 aa ab).f0))).setCell ⟨ad,1,none⟩ (vi ((rd_T70 aa ab).f1))) w.heap.size (fun k_ => some k_ ≠ (.slice b2 af.length b3 : Value).ownBlock ∧ k_ ≠ ad) (.slice (some ar) aa.length aI) aa) := ⟨Z13x3⟩;have ao : Aside0 (((bd.setCell ⟨ad,0,none⟩ (vi ((rd_T70 aa ab).f0))).setCell ⟨ad,1,none⟩ (vi ((rd_T70 aa ab).f1))).heap[ad]? = some (.cells #[vi ((rd_T70 aa ab).f0),vi ((rd_T70 aa ab).f1)] 70 (0,0))) := ⟨Z13x2⟩;have aq : Aside0 (Below w.heap.size w ((bd.setCell ⟨ad,0,none⟩ (vi ((rd_T70 aa ab).f0))).setCell ⟨ad,1,none⟩ (vi ((rd_T70 aa ab).f1)))) := ⟨Z13x1⟩
          (try clear HO_4)
          (try clear HO_12)
          (try clear ae)
          (try clear HB)
          generalize ((bd.setCell ⟨ad,0,none⟩ (vi ((rd_T70 aa ab).f0))).setCell ⟨ad,1,none⟩ (vi ((rd_T70 aa ab).f1))) = cP at ai aj ao aq ⊢;have HO_4 := ai;have HO_12 := aj;have ae := ao;have HB := aq;clear ai aj ao aq;have ai := mkA (Kd.R_drew HO_4.out);have aj := mkA (Kd.R_drew HO_12.out);have ao := mkA (blk_drew ae.out);have aq := mkA (below_drew1 HB.out);clear HO_4;clear HO_12;clear ae;clear HB;have HO_4 := ai;have HO_12 := aj;have ae := ao;have HB := aq;clear ai aj ao aq;have aC : 0 ≤ ((ag) : Int) := of_decide_eq_true Z13x5;have aD : (ag) < (af.length : Int) := of_decide_eq_true Z13x5;obtain ⟨au,bf,al,an⟩ := at_T70 (Kd.R_reads' HO_4.out).2.2 (ag) aC aD
          cases bf
          replace aC := eq_true aC;replace aD := eq_true aD;refine start_ (n := 14) (S := fun w' => w'.cell? ⟨ad,0,none⟩ = some (vi ((rd_T70 aa ab).f0)) ∧ w'.cell? ⟨ad,1,none⟩ = some (vi ((rd_T70 aa ab).f1)) ∧ w'.cell? (au.add (((ag)).toNat * 2)) = some (vi ((rd_T70 af (ag)).f0)) ∧ w'.cell? ⟨(au.add (((ag)).toNat * 2)).block,(au.add (((ag)).toNat * 2)).off + 1,none⟩ = some (vi ((rd_T70 af (ag)).f1))) (ds := []) #[false,false,false,false,false,false,false,false,false,false,false,false,false,false] (by kernel_rfl) rfl rfl ⟨(blk_cell ae.out 0).trans rfl,(blk_cell ae.out 1).trans rfl,al,an⟩ (fun hHeld => ?_);refine with_tabW impl_union.tab8 impl_union.bits8 (fun HT_ HW_ => ?_);generalize cP.drew = cQ at HO_4 HO_12 ae HB al an hHeld ⊢;refine pure_ (i := 0) (N := some 20) (v := ?_) (a' := ?_) #[true,false,false,false,false,false,false,false,false,false,false,false,false,false] rfl rfl (any_of HT_.out (by kernel_rfl)) (fun _ _ _ h => h) (Or.inl ⟨by rfl,?_⟩) ?_ ?_
          rotate_left
          ·intro w'
           go_simp
           with_reducible rfl
          rotate_left
          ·simp only [czP]
           rfl
          refine pure_ (i := 1) (N := some 21) (v := ?_) (a' := ?_) #[true,true,false,false,false,false,false,false,false,false,false,false,false,false] rfl rfl (any_of HT_.out (by kernel_rfl)) (fun _ _ _ h => h) (Or.inl ⟨by rfl,?_⟩) ?_ ?_
          rotate_left
          ·intro w'
           go_simp
           with_reducible rfl
          rotate_left
          ·simp only [czP]
           rfl
          refine pure_ (i := 2) (N := some 22) (v := ?_) (a' := ?_) #[true,true,true,false,false,false,false,false,false,false,false,false,false,false] rfl rfl (any_of HT_.out (by kernel_rfl)) (fun _ _ _ h => h) (Or.inl ⟨by rfl,?_⟩) ?_ ?_
          rotate_left
          ·intro w'
           go_simp
           with_reducible rfl
          rotate_left
          ·simp only [czP]
           rfl
          refine pure_ (i := 3) (N := some 23) (v := ?_) (a' := ?_) #[true,true,true,true,false,false,false,false,false,false,false,false,false,false] rfl rfl (any_of HT_.out (by kernel_rfl)) (fun _ _ _ h => h) (Or.inl ⟨by rfl,?_⟩) ?_ ?_
          rotate_left
          ·intro w'
           go_simp
           with_reducible rfl
          rotate_left
          ·simp only [czP]
           rfl
          refine pure_ (i := 5) (N := some 25) (v := ?_) (a' := ?_) #[true,true,true,true,false,true,false,false,false,false,false,false,false,false] rfl rfl (any_of HT_.out (by kernel_rfl)) (fun _ _ _ h => h) (Or.inl ⟨by rfl,?_⟩) ?_ ?_
          rotate_left
          ·intro w'
           go_simp
           with_reducible rfl
          rotate_left
          ·simp only [czP]
           rfl
          refine pure_ (i := 6) (N := some 26) (v := ?_) (a' := ?_) #[true,true,true,true,false,true,true,false,false,false,false,false,false,false] rfl rfl (any_of HT_.out (by kernel_rfl)) (fun _ _ _ h => h) (Or.inl ⟨by rfl,?_⟩) ?_ ?_
          rotate_left
          ·intro w'
           go_simp
           with_reducible rfl
          rotate_left
          ·simp only [czP]
           rfl
          refine pure_ (i := 7) (N := some 27) (v := ?_) (a' := ?_) #[true,true,true,true,false,true,true,true,false,false,false,false,false,false] rfl rfl (any_of HT_.out (by kernel_rfl)) (fun _ _ _ h => h) (Or.inl ⟨by rfl,?_⟩) ?_ ?_
          rotate_left
          ·intro w'
           go_simp
           with_reducible rfl
          rotate_left
          ·simp only [czP]
           rfl
          refine pure_ (i := 8) (N := some 28) (v := ?_) (a' := ?_) #[true,true,true,true,false,true,true,true,true,false,false,false,false,false] rfl rfl (any_of HT_.out (by kernel_rfl)) (fun _ _ _ h => h) (Or.inl ⟨by rfl,?_⟩) ?_ ?_
          rotate_left
          ·intro w'
           go_simp
           with_reducible rfl
          rotate_left
          ·simp only [czP]
           rfl
          refine pure_ (i := 9) (N := some 29) (v := ?_) (a' := ?_) #[true,true,true,true,false,true,true,true,true,true,false,false,false,false] rfl rfl (any_of HT_.out (by kernel_rfl)) (fun _ _ _ h => h) (Or.inl ⟨by rfl,?_⟩) ?_ ?_
          rotate_left
          ·intro w'
           go_simp
           with_reducible rfl
          rotate_left
          ·simp only [czP]
           rfl
          refine take_ (i := 4) (N := some 24) (v := ?_) (a' := ?_) #[true,true,true,true,true,true,true,true,true,true,false,false,false,false] rfl rfl (take_ofW HT_.out HW_.out (by kernel_rfl)) (fun _ _ _ h => h) (Or.inl ⟨by rfl,?_⟩) hHeld ?_ ?_
          rotate_left
          ·rintro w' ⟨s0,s1,s2,s3⟩
           go_simp
           with_reducible rfl
          rotate_left
          ·simp only [czP]
           rfl
          refine take_ (i := 10) (N := some 30) (v := ?_) (a' := ?_) #[true,true,true,true,true,true,true,true,true,true,true,false,false,false] rfl rfl (take_ofW HT_.out HW_.out (by kernel_rfl)) (fun _ _ _ h => h) (Or.inl ⟨by rfl,?_⟩) hHeld ?_ ?_
          rotate_left
          ·rintro w' ⟨s0,s1,s2,s3⟩
           go_simp
           with_reducible rfl
          rotate_left
          ·simp only [czP]
           rfl
          refine pure_ (i := 11) (N := some 31) (v := ?_) (a' := ?_) #[true,true,true,true,true,true,true,true,true,true,true,true,false,false] rfl rfl (any_of HT_.out (by kernel_rfl)) (fun _ _ _ h => h) (Or.inl ⟨by rfl,?_⟩) ?_ ?_
          rotate_left
          ·intro w'
           go_simp
           with_reducible rfl
          rotate_left
          ·simp only [czP]
           rfl
          refine pure_ (i := 12) (N := some 32) (v := ?_) (a' := ?_) #[true,true,true,true,true,true,true,true,true,true,true,true,true,false] rfl rfl (any_of HT_.out (by kernel_rfl)) (fun _ _ _ h => h) (Or.inl ⟨by rfl,?_⟩) ?_ ?_
          rotate_left
          ·intro w'
           go_simp
           with_reducible rfl
          rotate_left
          ·simp only [czP]
           rfl
          refine pure_ (i := 13) (N := some 33) (v := ?_) (a' := ?_) #[true,true,true,true,true,true,true,true,true,true,true,true,true,true] rfl rfl (any_of HT_.out (by kernel_rfl)) (fun _ _ _ h => h) (Or.inl ⟨by rfl,?_⟩) ?_ ?_
          rotate_left
          ·intro w'
           go_simp
           with_reducible rfl
          rotate_left
          ·simp only [czP]
           rfl
          refine done_ (done_of HT_.out (by kernel_rfl)) ?_
          try go_wp2
          have ai := mkA (Kd.R_drew HO_4.out);have aj := mkA (Kd.R_drew HO_12.out);have ao := mkA (blk_drew ae.out);have aq := mkA (below_drew1 HB.out);clear HO_4;clear HO_12;clear ae;clear HB;have HO_4 := ai;have HO_12 := aj;have ae := ao;have HB := aq;clear ai aj ao aq;have bg : 0 ≤ ((ag) : Int) := of_decide_eq_true Z13x5;have bh : (ag) < (af.length : Int) := of_decide_eq_true Z13x5;obtain ⟨b4,cr,ay,az⟩ := at_T70 (Kd.R_reads' HO_4.out).2.2 (ag) bg bh;obtain rfl : au = b4 := (by injection cr);replace bg := eq_true bg;replace bh := eq_true bh;have ct : 0 ≤ ((ag) : Int) := of_decide_eq_true Z13x5;have cu : ((ag) : Int) < ((af.length : Int) : Int) := of_decide_eq_true Z13x5;obtain ⟨a6,cR,b5,b6,cv,cS,b7⟩ := Kd.R_form HO_4.out (by omega)
          (first | cases b5 | (injection b5 with ea_ en_ ec_;(first | subst ea_ | (injection ea_ with ea_;subst ea_));subst ec_;clear en_))
          have cw := mkA b6;have cx := mkA b7;clear b6 cv b7
          (first | simp only [add_plain] at al | skip)
          (first | simp only [add_plain] at an | skip)
          (first | simp only [add_plain] at ay | skip)
          (first | simp only [add_plain] at az | skip)
          obtain ⟨cT,b8,b9,aU,aV⟩ := Kd.R_elem HO_4.out z70 ((ag) : Int) ct cu;obtain rfl := k70_openM b9;have bj : World.cell? _ ⟨a6,((ag) : Int).toNat * 2,none⟩ = some (vi ((rd_T70 af (ag)).f0)) := aU 0 _ rfl;have bk : World.cell? _ ⟨a6,((ag) : Int).toNat * 2 + 1,none⟩ = some (vi ((rd_T70 af (ag)).f1)) := aU 1 _ rfl;have bm : World.frozen? _ ⟨a6,((ag) : Int).toNat * 2,none⟩ = false := aV 0;have bn : World.frozen? _ ⟨a6,((ag) : Int).toNat * 2 + 1,none⟩ = false := aV 1;clear b8 aU aV;(try clear b9);replace ct := eq_true ct;replace cu := eq_true cu;obtain ⟨cU,bb,bA,bc,bB⟩ := Kd.R_elem HO_4.out z70 ((ag) : Int) (of_decide_eq_true Z13x5) (by have h_ : ((ag) : Int) < ((af.length : Int) : Int) := of_decide_eq_true Z13x5;first | exact h_ | (have e_ := (Kd.R_reads' HO_4.out).1;omega) | simpa using h_);obtain rfl := k70_openM bA;have bo := (Kd.R_seg HO_4.out ((ag) : Int) (of_decide_eq_true Z13x5) (by have h_ : ((ag) : Int) < ((af.length : Int) : Int) := of_decide_eq_true Z13x5;first | exact h_ | (have e_ := (Kd.R_reads' HO_4.out).1;omega) | simpa using h_) (seg := [vi aA]) (j := 1) bb bc (show 2 ≤ 2 from by decide) (x' := (⟨(rd_T70 af (ag)).f0,aA⟩ : S70)) (k70_mkM _ _ _ (⟨(rd_T70 af (ag)).f0,aA⟩ : S70) ) (fun _ hk => hk)).1;rw [← b1.out] at bo;have bC := mkA bo;clear bb bc bB bo;(try clear bA);refine start_ (n := 15) (S := fun w' => w'.cell? ⟨ad,0,none⟩ = some (vi ((rd_T70 aa ab).f0)) ∧ w'.cell? ⟨ad,1,none⟩ = some (vi ((rd_T70 aa ab).f1)) ∧ w'.cell? (⟨a6,(((ag)).toNat * 2),none⟩ : Addr) = some (vi ((rd_T70 af (ag)).f0)) ∧ w'.cell? ⟨a6,(((ag)).toNat * 2) + 1,none⟩ = some (vi ((rd_T70 af (ag)).f1))) (ds := [14]) #[false,false,false,false,false,false,false,false,false,false,false,false,false,false,false] (by kernel_rfl) rfl rfl ⟨(blk_cell ae.out 0).trans rfl,(blk_cell ae.out 1).trans rfl,ay,az⟩ (fun hHeld => ?_);refine with_tabW impl_union.tab9 impl_union.bits9 (fun HT_ HW_ => ?_);generalize cQ.drew = c_ at HO_4 HO_12 ae HB cx bC bm bn bj bk al an ay az hHeld ⊢;refine pure_ (i := 0) (N := some 34) (v := ?_) (a' := ?_) #[true,false,false,false,false,false,false,false,false,false,false,false,false,false,false] rfl rfl (any_of HT_.out (by kernel_rfl)) (fun _ _ _ h => h) (Or.inl ⟨by rfl,?_⟩) ?_ ?_
          rotate_left
          ·intro w'
           go_simp
           with_reducible rfl
          rotate_left
          ·simp only [czP]
           rfl
          refine pure_ (i := 1) (N := some 35) (v := ?_) (a' := ?_) #[true,true,false,false,false,false,false,false,false,false,false,false,false,false,false] rfl rfl (any_of HT_.out (by kernel_rfl)) (fun _ _ _ h => h) (Or.inl ⟨by rfl,?_⟩) ?_ ?_
          rotate_left
          ·intro w'
           go_simp
           with_reducible rfl
          rotate_left
          ·simp only [czP]
           rfl
          refine pure_ (i := 2) (N := some 36) (v := ?_) (a' := ?_) #[true,true,true,false,false,false,false,false,false,false,false,false,false,false,false] rfl rfl (any_of HT_.out (by kernel_rfl)) (fun _ _ _ h => h) (Or.inl ⟨by rfl,?_⟩) ?_ ?_
          rotate_left
          ·intro w'
           go_simp
           with_reducible rfl
          rotate_left
          ·simp only [czP]
           rfl
          refine pure_ (i := 3) (N := some 37) (v := ?_) (a' := ?_) #[true,true,true,true,false,false,false,false,false,false,false,false,false,false,false] rfl rfl (any_of HT_.out (by kernel_rfl)) (fun _ _ _ h => h) (Or.inl ⟨by rfl,?_⟩) ?_ ?_
          rotate_left
          ·intro w'
           go_simp
           with_reducible rfl
          rotate_left
          ·simp only [czP]
           rfl
          refine pure_ (i := 4) (N := some 38) (v := ?_) (a' := ?_) #[true,true,true,true,true,false,false,false,false,false,false,false,false,false,false] rfl rfl (any_of HT_.out (by kernel_rfl)) (fun _ _ _ h => h) (Or.inl ⟨by rfl,?_⟩) ?_ ?_
          rotate_left
          ·intro w'
           go_simp
           with_reducible rfl
          rotate_left
          ·simp only [czP]
           rfl
          refine pure_ (i := 5) (N := some 39) (v := ?_) (a' := ?_) #[true,true,true,true,true,true,false,false,false,false,false,false,false,false,false] rfl rfl (any_of HT_.out (by kernel_rfl)) (fun _ _ _ h => h) (Or.inl ⟨by rfl,?_⟩) ?_ ?_
          rotate_left
          ·intro w'
           go_simp
           with_reducible rfl
          rotate_left
          ·simp only [czP]
           rfl
          refine pure_ (i := 6) (N := some 40) (v := ?_) (a' := ?_) #[true,true,true,true,true,true,true,false,false,false,false,false,false,false,false] rfl rfl (any_of HT_.out (by kernel_rfl)) (fun _ _ _ h => h) (Or.inl ⟨by rfl,?_⟩) ?_ ?_
          rotate_left
          ·intro w'
           go_simp
           with_reducible rfl
          rotate_left
          ·simp only [czP]
           rfl
          refine pure_ (i := 7) (N := some 41) (v := ?_) (a' := ?_) #[true,true,true,true,true,true,true,true,false,false,false,false,false,false,false] rfl rfl (any_of HT_.out (by kernel_rfl)) (fun _ _ _ h => h) (Or.inl ⟨by rfl,?_⟩) ?_ ?_
          rotate_left
          ·intro w'
           go_simp
           with_reducible rfl
          rotate_left
          ·simp only [czP]
           rfl
          refine pure_ (i := 9) (N := some 43) (v := ?_) (a' := ?_) #[true,true,true,true,true,true,true,true,false,true,false,false,false,false,false] rfl rfl (any_of HT_.out (by kernel_rfl)) (fun _ _ _ h => h) (Or.inl ⟨by rfl,?_⟩) ?_ ?_
          rotate_left
          ·intro w'
           go_simp
           with_reducible rfl
          rotate_left
          ·simp only [czP]
           rfl
          refine take_ (i := 8) (N := some 42) (v := ?_) (a' := ?_) #[true,true,true,true,true,true,true,true,true,true,false,false,false,false,false] rfl rfl (take_ofW HT_.out HW_.out (by kernel_rfl)) (fun _ _ _ h => h) (Or.inl ⟨by rfl,?_⟩) hHeld ?_ ?_
          rotate_left
          ·rintro w' ⟨s0,s1,s2,s3⟩
           go_simp
           with_reducible rfl
          rotate_left
          ·simp only [czP]
           rfl
          refine take_ (i := 10) (N := some 44) (v := ?_) (a' := ?_) #[true,true,true,true,true,true,true,true,true,true,true,false,false,false,false] rfl rfl (take_ofW HT_.out HW_.out (by kernel_rfl)) (fun _ _ _ h => h) (Or.inl ⟨by rfl,?_⟩) hHeld ?_ ?_
          rotate_left
          ·rintro w' ⟨s0,s1,s2,s3⟩
           go_simp
           with_reducible rfl
          rotate_left
          ·simp only [czP]
           rfl
          refine pure_ (i := 11) (N := some 45) (v := ?_) (a' := ?_) #[true,true,true,true,true,true,true,true,true,true,true,true,false,false,false] rfl rfl (any_of HT_.out (by kernel_rfl)) (fun _ _ _ h => h) (Or.inl ⟨by rfl,?_⟩) ?_ ?_
          rotate_left
          ·intro w'
           go_simp
           with_reducible rfl
          rotate_left
          ·simp only [czP]
           rfl
          refine pure_ (i := 12) (N := some 46) (v := ?_) (a' := ?_) #[true,true,true,true,true,true,true,true,true,true,true,true,true,false,false] rfl rfl (any_of HT_.out (by kernel_rfl)) (fun _ _ _ h => h) (Or.inl ⟨by rfl,?_⟩) ?_ ?_
          rotate_left
          ·intro w'
           go_simp
           with_reducible rfl
          rotate_left
          ·simp only [czP]
           rfl
          refine pure_ (i := 13) (N := some 47) (v := ?_) (a' := ?_) #[true,true,true,true,true,true,true,true,true,true,true,true,true,true,false] rfl rfl (any_of HT_.out (by kernel_rfl)) (fun _ _ _ h => h) (Or.inl ⟨by rfl,?_⟩) ?_ ?_
          rotate_left
          ·intro w'
           go_simp
           with_reducible rfl
          rotate_left
          ·simp only [czP]
           rfl
          refine last_ (i := 14) (N := none) #[true,true,true,true,true,true,true,true,true,true,true,true,true,true,true] rfl rfl (one_of HT_.out (by kernel_rfl)) (by decide) (fun K hK => ?_);refine skip_ (w1 := ?_) (by rfl) rfl ?_ ?_
          rotate_left
          ·go_simp
           rfl
          refine hK.out _ _ ?_;clear hK K;refine done_ (done_of HT_.out (by kernel_rfl)) ?_
          try go_wp2
          (try simp only [← ah])
          go_roundg k1
          case measure => have := bw.out;omega
          case rel => exact ⟨(b0),(aa),(wrap64 (ab + 1)),(by first | rfl | (simp;done) | (simp [*];done)),H',⟨by have := bw.out;omega⟩,⟨by (try simp only [ah]);(with_reducible repeat (first | apply Kd.R_alloc | apply Kd.R_drewN | apply Kd.R_drew));exact Kd.R_mono bC.out (fun _ hk => hk.1)⟩,⟨by (try simp only [ah]);(with_reducible repeat (first | apply Kd.R_alloc | apply Kd.R_drewN | apply Kd.R_drew));exact Kd.R_mono (Kd.R_far (p := ⟨a6,((ag) : Int).toNat * 2 + 1,none⟩) (Kd.R_mono HO_12.out (fun k_ hk => (⟨hk,fun e_ => hk.1 (by rw [e_];rfl)⟩ : _ ∧ k_ ≠ a6))) (fun _ hk => hk.2) (vi aA)) (fun _ hk => hk.1.1)⟩,⟨by repeat (first | (with_reducible first | exact HB.out | apply below_alloc | apply pw_below_drewN | apply below_drew1 | refine below_set ?_ cw.out | refine below_set ?_ aE.out) | exact HB.out)⟩⟩
         ·rw [if_neg aX] at H
          have c14b0 : decide (((rd_T70 aa ab).f0) ≤ (wrap64 (((rd_T70 af (ag)).f1) + 1))) = false := decide_eq_false aX
          (try (have c14b1 : decide (((rd_T70 aa ab).f0) ≤ (IntKind.i64.wrap (((rd_T70 af (ag)).f1) + 1))) = false := by simp only [i64_w];first | exact decide_eq_false aX | simpa using aX))
          clear aX
          by_cases bT : af.length < 8796093022208
          ·rw [if_pos bT] at H
           have bD := mkA bT;clear bT;obtain ⟨bE,a7⟩ : ∃ y_ : List (S70),y_ = (af ++ [(⟨(rd_T70 aa ab).f0,(rd_T70 aa ab).f1⟩ : S70)]) := ⟨_,rfl⟩
           replace H : (impl_union.l0 k1 bE aa (ak.length : Int) (wrap64 (ab + 1))) = some r := by first | (rw [a7];with_reducible exact H) | (have aR := (Option.bind_some _ _).symm.trans H;rw [a7];with_reducible exact aR) | (have aR := (Option.bind_some _ _).symm.trans H;with_reducible exact aR) | with_reducible exact H | (rw [a7];exact H) | exact H
           have bF := mkA a7;clear a7;have H' := mkA H;clear H;have av : 0 ≤ (ab : Int) := of_decide_eq_true Z13x5;have aw : ab < (aa.length : Int) := of_decide_eq_true Z13x5;obtain ⟨ar,aT,aG,aH⟩ := at_T70 (Kd.R_reads' HO_12.out).2.2 ab av aw
           cases aT
           replace av := eq_true av;replace aw := eq_true aw
           try go_wp2_with (first | ((with_reducible refine gate_dst (N := 6) rfl ?_);refine box_event ?hg (N := 6) ?hd (cs := #[vi 0,vi 0]) (t := 70) ?hr ?_;(case hd => rfl);(case hg => rfl);(case hr => first | (go_simp;done) | (go_simp;rfl));intro ad hg bp hbox hb;have ai := mkA (Kd.R_below (Kd.R_elderB Z13x7 ad (Nat.le_of_eq hg.symm)) hb);have aj := mkA (Kd.R_below (Kd.R_elderB Z13x6 ad (Nat.le_of_eq hg.symm)) hb);have ao := mkA (below_step Z13x0 hb);have aq := mkA (hbox);have aZ := mkA ((by rw [hg];exact (below_size Z13x0) : w.heap.size ≤ ad));have a_ := mkA ((by rw [hg];exact (below_size Z13x0) : w.heap.size ≤ ad));clear HO_4;clear HO_12;clear HB;have HO_4 := ai;have HO_12 := aj;have HB := ao;have ae := aq;have ba := aZ;have aE := a_;clear ai aj ao aq aZ a_;clear hb hbox hg;have bU : bp.cell? ⟨ad,0,none⟩ = some (vi 0) := (blk_cell ae.out 0).trans rfl;have bV : bp.cell? ⟨ad,1,none⟩ = some (vi 0) := (blk_cell ae.out 1).trans rfl;have bW := blk_frozen ae.out 0;have bX := blk_frozen ae.out 1;obtain ⟨bG,bq,cy⟩ := Kd.R_slice HO_4.out;subst cy))
           have ai : Aside0 (Kd.R k70 70 ((bp.setCell ⟨ad,0,none⟩ (vi ((rd_T70 aa ab).f0))).setCell ⟨ad,1,none⟩ (vi ((rd_T70 aa ab).f1))) w.heap.size (fun k_ => some k_ ≠ (.slice (some ar) aa.length aI : Value).ownBlock ∧ k_ ≠ ad) (.slice bG af.length bq) af) := ⟨Z13x4⟩;have aj : Aside0 (Kd.R k70 70 ((bp.setCell ⟨ad,0,none⟩ (vi ((rd_T70 aa ab).f0))).setCell ⟨ad,1,none⟩ (vi ((rd_T70 aa ab).f1))) w.heap.size (fun k_ => some k_ ≠ (.slice bG af.length bq : Value).ownBlock ∧ k_ ≠ ad) (.slice (some ar) aa.length aI) aa) := ⟨Z13x3⟩;have ao : Aside0 (((bp.setCell ⟨ad,0,none⟩ (vi ((rd_T70 aa ab).f0))).setCell ⟨ad,1,none⟩ (vi ((rd_T70 aa ab).f1))).heap[ad]? = some (.cells #[vi ((rd_T70 aa ab).f0),vi ((rd_T70 aa ab).f1)] 70 (0,0))) := ⟨Z13x2⟩;have aq : Aside0 (Below w.heap.size w ((bp.setCell ⟨ad,0,none⟩ (vi ((rd_T70 aa ab).f0))).setCell ⟨ad,1,none⟩ (vi ((rd_T70 aa ab).f1)))) := ⟨Z13x1⟩
           (try clear HO_4)
           (try clear HO_12)
           (try clear ae)
           (try clear HB)
           generalize ((bp.setCell ⟨ad,0,none⟩ (vi ((rd_T70 aa ab).f0))).setCell ⟨ad,1,none⟩ (vi ((rd_T70 aa ab).f1))) = cV at ai aj ao aq ⊢;have HO_4 := ai;have HO_12 := aj;have ae := ao;have HB := aq;clear ai aj ao aq;have ai := mkA (Kd.R_drew HO_4.out);have aj := mkA (Kd.R_drew HO_12.out);have ao := mkA (blk_drew ae.out);have aq := mkA (below_drew1 HB.out);clear HO_4;clear HO_12;clear ae;clear HB;have HO_4 := ai;have HO_12 := aj;have ae := ao;have HB := aq;clear ai aj ao aq;have aC : 0 ≤ ((ag) : Int) := of_decide_eq_true Z13x5;have aD : (ag) < (af.length : Int) := of_decide_eq_true Z13x5;obtain ⟨au,bf,al,an⟩ := at_T70 (Kd.R_reads' HO_4.out).2.2 (ag) aC aD
           cases bf
           replace aC := eq_true aC;replace aD := eq_true aD;refine start_ (n := 14) (S := fun w' => w'.cell? ⟨ad,0,none⟩ = some (vi ((rd_T70 aa ab).f0)) ∧ w'.cell? ⟨ad,1,none⟩ = some (vi ((rd_T70 aa ab).f1)) ∧ w'.cell? (au.add (((ag)).toNat * 2)) = some (vi ((rd_T70 af (ag)).f0)) ∧ w'.cell? ⟨(au.add (((ag)).toNat * 2)).block,(au.add (((ag)).toNat * 2)).off + 1,none⟩ = some (vi ((rd_T70 af (ag)).f1))) (ds := []) #[false,false,false,false,false,false,false,false,false,false,false,false,false,false] (by kernel_rfl) rfl rfl ⟨(blk_cell ae.out 0).trans rfl,(blk_cell ae.out 1).trans rfl,al,an⟩ (fun hHeld => ?_);refine with_tabW impl_union.tab8 impl_union.bits8 (fun HT_ HW_ => ?_);generalize cV.drew = cH at HO_4 HO_12 ae HB al an hHeld ⊢;refine pure_ (i := 0) (N := some 20) (v := ?_) (a' := ?_) #[true,false,false,false,false,false,false,false,false,false,false,false,false,false] rfl rfl (any_of HT_.out (by kernel_rfl)) (fun _ _ _ h => h) (Or.inl ⟨by rfl,?_⟩) ?_ ?_
           rotate_left
           ·intro w'
            go_simp
            with_reducible rfl
           rotate_left
           ·simp only [czP]
            rfl
           refine pure_ (i := 1) (N := some 21) (v := ?_) (a' := ?_) #[true,true,false,false,false,false,false,false,false,false,false,false,false,false] rfl rfl (any_of HT_.out (by kernel_rfl)) (fun _ _ _ h => h) (Or.inl ⟨by rfl,?_⟩) ?_ ?_
           rotate_left
           ·intro w'
            go_simp
            with_reducible rfl
           rotate_left
           ·simp only [czP]
            rfl
           refine pure_ (i := 2) (N := some 22) (v := ?_) (a' := ?_) #[true,true,true,false,false,false,false,false,false,false,false,false,false,false] rfl rfl (any_of HT_.out (by kernel_rfl)) (fun _ _ _ h => h) (Or.inl ⟨by rfl,?_⟩) ?_ ?_
           rotate_left
           ·intro w'
            go_simp
            with_reducible rfl
           rotate_left
           ·simp only [czP]
            rfl
           refine pure_ (i := 3) (N := some 23) (v := ?_) (a' := ?_) #[true,true,true,true,false,false,false,false,false,false,false,false,false,false] rfl rfl (any_of HT_.out (by kernel_rfl)) (fun _ _ _ h => h) (Or.inl ⟨by rfl,?_⟩) ?_ ?_
           rotate_left
           ·intro w'
            go_simp
            with_reducible rfl
           rotate_left
           ·simp only [czP]
            rfl
           refine pure_ (i := 5) (N := some 25) (v := ?_) (a' := ?_) #[true,true,true,true,false,true,false,false,false,false,false,false,false,false] rfl rfl (any_of HT_.out (by kernel_rfl)) (fun _ _ _ h => h) (Or.inl ⟨by rfl,?_⟩) ?_ ?_
           rotate_left
           ·intro w'
            go_simp
            with_reducible rfl
           rotate_left
           ·simp only [czP]
            rfl
           refine pure_ (i := 6) (N := some 26) (v := ?_) (a' := ?_) #[true,true,true,true,false,true,true,false,false,false,false,false,false,false] rfl rfl (any_of HT_.out (by kernel_rfl)) (fun _ _ _ h => h) (Or.inl ⟨by rfl,?_⟩) ?_ ?_
           rotate_left
           ·intro w'
            go_simp
            with_reducible rfl
           rotate_left
           ·simp only [czP]
            rfl
           refine pure_ (i := 7) (N := some 27) (v := ?_) (a' := ?_) #[true,true,true,true,false,true,true,true,false,false,false,false,false,false] rfl rfl (any_of HT_.out (by kernel_rfl)) (fun _ _ _ h => h) (Or.inl ⟨by rfl,?_⟩) ?_ ?_
           rotate_left
           ·intro w'
            go_simp
            with_reducible rfl
           rotate_left
           ·simp only [czP]
            rfl
           refine pure_ (i := 8) (N := some 28) (v := ?_) (a' := ?_) #[true,true,true,true,false,true,true,true,true,false,false,false,false,false] rfl rfl (any_of HT_.out (by kernel_rfl)) (fun _ _ _ h => h) (Or.inl ⟨by rfl,?_⟩) ?_ ?_
           rotate_left
           ·intro w'
            go_simp
            with_reducible rfl
           rotate_left
           ·simp only [czP]
            rfl
           refine pure_ (i := 9) (N := some 29) (v := ?_) (a' := ?_) #[true,true,true,true,false,true,true,true,true,true,false,false,false,false] rfl rfl (any_of HT_.out (by kernel_rfl)) (fun _ _ _ h => h) (Or.inl ⟨by rfl,?_⟩) ?_ ?_
           rotate_left
           ·intro w'
            go_simp
            with_reducible rfl
           rotate_left
           ·simp only [czP]
            rfl
           refine take_ (i := 4) (N := some 24) (v := ?_) (a' := ?_) #[true,true,true,true,true,true,true,true,true,true,false,false,false,false] rfl rfl (take_ofW HT_.out HW_.out (by kernel_rfl)) (fun _ _ _ h => h) (Or.inl ⟨by rfl,?_⟩) hHeld ?_ ?_
           rotate_left
           ·rintro w' ⟨s0,s1,s2,s3⟩
            go_simp
            with_reducible rfl
           rotate_left
           ·simp only [czP]
            rfl
           refine take_ (i := 10) (N := some 30) (v := ?_) (a' := ?_) #[true,true,true,true,true,true,true,true,true,true,true,false,false,false] rfl rfl (take_ofW HT_.out HW_.out (by kernel_rfl)) (fun _ _ _ h => h) (Or.inl ⟨by rfl,?_⟩) hHeld ?_ ?_
           rotate_left
           ·rintro w' ⟨s0,s1,s2,s3⟩
            go_simp
            with_reducible rfl
           rotate_left
           ·simp only [czP]
            rfl
           refine pure_ (i := 11) (N := some 31) (v := ?_) (a' := ?_) #[true,true,true,true,true,true,true,true,true,true,true,true,false,false] rfl rfl (any_of HT_.out (by kernel_rfl)) (fun _ _ _ h => h) (Or.inl ⟨by rfl,?_⟩) ?_ ?_
           rotate_left
           ·intro w'
            go_simp
            with_reducible rfl
           rotate_left
           ·simp only [czP]
            rfl
           refine pure_ (i := 12) (N := some 32) (v := ?_) (a' := ?_) #[true,true,true,true,true,true,true,true,true,true,true,true,true,false] rfl rfl (any_of HT_.out (by kernel_rfl)) (fun _ _ _ h => h) (Or.inl ⟨by rfl,?_⟩) ?_ ?_
           rotate_left
           ·intro w'
            go_simp
            with_reducible rfl
           rotate_left
           ·simp only [czP]
            rfl
           refine pure_ (i := 13) (N := some 33) (v := ?_) (a' := ?_) #[true,true,true,true,true,true,true,true,true,true,true,true,true,true] rfl rfl (any_of HT_.out (by kernel_rfl)) (fun _ _ _ h => h) (Or.inl ⟨by rfl,?_⟩) ?_ ?_
           rotate_left
           ·intro w'
            go_simp
            with_reducible rfl
           rotate_left
           ·simp only [czP]
            rfl
           refine done_ (done_of HT_.out (by kernel_rfl)) ?_;have bY : cH.cell? ⟨ad,0,none⟩ = some (vi ((rd_T70 aa ab).f0)) := (blk_cell ae.out 0).trans rfl;have bZ : cH.cell? ⟨ad,1,none⟩ = some (vi ((rd_T70 aa ab).f1)) := (blk_cell ae.out 1).trans rfl;have b_ := blk_frozen ae.out 0;have ca := blk_frozen ae.out 1
           try go_wp2_with (first | ((with_reducible refine gate_builtin (b := .append) (xs := #[.tmp 48,.tmp 50]) rfl ?_);at_builtin;refine Kd.R_append k70 (w0 := w) w.heap.size rfl (.tmp 48) (.tmp 50) 32 70 (.agg #[(vi 0),(vi 0)]) 16 rfl Try.underlying32 info70 rfl (by decide) (by omega) (.slice (some au) af.length bq) af (⟨(rd_T70 aa ab).f0,(rd_T70 aa ab).f1⟩ : S70) [vi ((rd_T70 aa ab).f0),vi ((rd_T70 aa ab).f1)] (fun k_ => some k_ ≠ (.slice (some ar) aa.length aI : Value).ownBlock ∧ k_ ≠ ad) (fun _ => False) rfl rfl ?aP (fun _ hk => hk.elim) ?aF ?aO ?aB ?aS ?aL ?_;(case aP => exact k70_mkM _ _ _ (⟨(rd_T70 aa ab).f0,(rd_T70 aa ab).f1⟩ : S70));(case aB => exact Z13x1);(case aF => exact (fun k_ hk => ⟨Kd.fresh' (Kd.R_lt Z13x6) k_ hk,Kd.freshB (g := ad) (o := .cells #[vi ((rd_T70 aa ab).f0),vi ((rd_T70 aa ab).f1)] 70 (0,0)) Z13x8 k_ hk⟩));(case aO => exact Z13x7);(case aS => exact (below_size Z13x1));(case aL => have := bD.out;omega);intro cW da ho hb hg hat;rw [← bF.out] at ho;have ai := mkA (Kd.R_after (ok := (fun k_ => k_ ≠ ad)) (by (with_reducible repeat (first | apply Kd.R_alloc | apply Kd.R_drewN | apply Kd.R_drew));exact Kd.R_mono HO_12.out (fun _ hk => ⟨hk.2,hk.1⟩)) hg hat);have aj := mkA (blk_grown (g := ad) (o := .cells #[vi ((rd_T70 aa ab).f0),vi ((rd_T70 aa ab).f1)] 70 (0,0)) Z13x8 hg (Kd.R_away HO_4.out (fun _ hk => hk.2)));have ao := mkA (hb);have aq := mkA (ho);clear HO_12;clear ae;clear HB;clear HO_4;have HO_12 := ai;have ae := aj;have HB := ao;have bH := aq;clear ai aj ao aq;clear ho hb hg hat))
           (try simp only [← ah])
           go_roundg k1
           case measure => have := bw.out;omega
           case rel => exact ⟨(bE),(aa),(wrap64 (ab + 1)),(by first | rfl | (simp;done) | (simp [*];done)),H',⟨by have := bw.out;omega⟩,⟨by (try simp only [ah]);(with_reducible repeat (first | apply Kd.R_alloc | apply Kd.R_drewN | apply Kd.R_drew));exact Kd.R_mono bH.out (fun _ hk => hk.1)⟩,⟨by (try simp only [ah]);(with_reducible repeat (first | apply Kd.R_alloc | apply Kd.R_drewN | apply Kd.R_drew));exact Kd.R_mono HO_12.out (fun _ hk => hk.2)⟩,⟨Z13x1⟩⟩
          ·rw [if_neg bT] at H
           exact absurd H (by simp)
        ·rw [if_neg bO] at H
         exact absurd H (by simp)
       ·rw [if_neg bN] at H
        exact absurd H (by simp)
      ·rw [if_neg c10] at H
       have c10b0 : decide (0 < (af.length : Int)) = false := decide_eq_false c10
       (try (have c10b1 : decide (0 < af.length) = false := decide_eq_false (by omega)))
       (try (have c10b2 : (0 < af.length) = False := eq_false (by omega)))
       have c10b3 : decide (0 < af.length) = false := decide_eq_false (by omega);clear c10
       by_cases cb : af.length < 8796093022208
       ·rw [if_pos cb] at H
        have bI := mkA cb;clear cb;obtain ⟨bJ,a8⟩ : ∃ y_ : List (S70),y_ = (af ++ [(⟨(rd_T70 aa ab).f0,(rd_T70 aa ab).f1⟩ : S70)]) := ⟨_,rfl⟩
        replace H : (impl_union.l0 k1 bJ aa (ak.length : Int) (wrap64 (ab + 1))) = some r := by first | (rw [a8];with_reducible exact H) | (have aR := (Option.bind_some _ _).symm.trans H;rw [a8];with_reducible exact aR) | (have aR := (Option.bind_some _ _).symm.trans H;with_reducible exact aR) | with_reducible exact H | (rw [a8];exact H) | exact H
        have bK := mkA a8;clear a8;have H' := mkA H;clear H;have av : 0 ≤ (ab : Int) := of_decide_eq_true Z13x5;have aw : ab < (aa.length : Int) := of_decide_eq_true Z13x5;obtain ⟨ar,aT,aG,aH⟩ := at_T70 (Kd.R_reads' HO_12.out).2.2 ab av aw
        cases aT
        replace av := eq_true av;replace aw := eq_true aw
        try go_wp2_with (first | ((with_reducible refine gate_dst (N := 6) rfl ?_);refine box_event ?hg (N := 6) ?hd (cs := #[vi 0,vi 0]) (t := 70) ?hr ?_;(case hd => rfl);(case hg => rfl);(case hr => first | (go_simp;done) | (go_simp;rfl));intro ad hg br hbox hb;have ai := mkA (Kd.R_below (Kd.R_elderB Z13x7 ad (Nat.le_of_eq hg.symm)) hb);have aj := mkA (Kd.R_below (Kd.R_elderB Z13x6 ad (Nat.le_of_eq hg.symm)) hb);have ao := mkA (below_step Z13x0 hb);have aq := mkA (hbox);have aZ := mkA ((by rw [hg];exact (below_size Z13x0) : w.heap.size ≤ ad));have a_ := mkA ((by rw [hg];exact (below_size Z13x0) : w.heap.size ≤ ad));clear HO_4;clear HO_12;clear HB;have HO_4 := ai;have HO_12 := aj;have HB := ao;have ae := aq;have ba := aZ;have aE := a_;clear ai aj ao aq aZ a_;clear hb hbox hg;have cc : br.cell? ⟨ad,0,none⟩ = some (vi 0) := (blk_cell ae.out 0).trans rfl;have cd : br.cell? ⟨ad,1,none⟩ = some (vi 0) := (blk_cell ae.out 1).trans rfl;have cf := blk_frozen ae.out 0;have cg := blk_frozen ae.out 1;obtain ⟨bs,bu,cz⟩ := Kd.R_slice HO_4.out;subst cz))
        have ai : Aside0 (Kd.R k70 70 ((br.setCell ⟨ad,0,none⟩ (vi ((rd_T70 aa ab).f0))).setCell ⟨ad,1,none⟩ (vi ((rd_T70 aa ab).f1))) w.heap.size (fun k_ => some k_ ≠ (.slice (some ar) aa.length aI : Value).ownBlock ∧ k_ ≠ ad) (.slice bs af.length bu) af) := ⟨Z13x4⟩;have aj : Aside0 (Kd.R k70 70 ((br.setCell ⟨ad,0,none⟩ (vi ((rd_T70 aa ab).f0))).setCell ⟨ad,1,none⟩ (vi ((rd_T70 aa ab).f1))) w.heap.size (fun k_ => some k_ ≠ (.slice bs af.length bu : Value).ownBlock ∧ k_ ≠ ad) (.slice (some ar) aa.length aI) aa) := ⟨Z13x3⟩;have ao : Aside0 (((br.setCell ⟨ad,0,none⟩ (vi ((rd_T70 aa ab).f0))).setCell ⟨ad,1,none⟩ (vi ((rd_T70 aa ab).f1))).heap[ad]? = some (.cells #[vi ((rd_T70 aa ab).f0),vi ((rd_T70 aa ab).f1)] 70 (0,0))) := ⟨Z13x2⟩;have aq : Aside0 (Below w.heap.size w ((br.setCell ⟨ad,0,none⟩ (vi ((rd_T70 aa ab).f0))).setCell ⟨ad,1,none⟩ (vi ((rd_T70 aa ab).f1)))) := ⟨Z13x1⟩
        (try clear HO_4)
        (try clear HO_12)
        (try clear ae)
        (try clear HB)
        generalize ((br.setCell ⟨ad,0,none⟩ (vi ((rd_T70 aa ab).f0))).setCell ⟨ad,1,none⟩ (vi ((rd_T70 aa ab).f1))) = cX at ai aj ao aq ⊢;have HO_4 := ai;have HO_12 := aj;have ae := ao;have HB := aq;clear ai aj ao aq;have ai := mkA (Kd.R_drew HO_4.out);have aj := mkA (Kd.R_drew HO_12.out);have ao := mkA (blk_drew ae.out);have aq := mkA (below_drew1 HB.out);clear HO_4;clear HO_12;clear ae;clear HB;have HO_4 := ai;have HO_12 := aj;have ae := ao;have HB := aq;clear ai aj ao aq;refine start_ (n := 14) (S := fun w' => True) (ds := []) #[false,false,false,false,false,false,false,false,false,false,false,false,false,false] (by kernel_rfl) rfl rfl trivial (fun hHeld => ?_);refine with_tabW impl_union.tab8 impl_union.bits8 (fun HT_ HW_ => ?_);generalize cX.drew = cI at HO_4 HO_12 ae HB hHeld ⊢;refine pure_ (i := 0) (N := some 20) (v := ?_) (a' := ?_) #[true,false,false,false,false,false,false,false,false,false,false,false,false,false] rfl rfl (any_of HT_.out (by kernel_rfl)) (fun _ _ _ h => h) (Or.inl ⟨by rfl,?_⟩) ?_ ?_
        rotate_left
        ·intro w'
         go_simp
         with_reducible rfl
        rotate_left
        ·simp only [czP]
         rfl
        refine pure_ (i := 1) (N := some 21) (v := ?_) (a' := ?_) #[true,true,false,false,false,false,false,false,false,false,false,false,false,false] rfl rfl (any_of HT_.out (by kernel_rfl)) (fun _ _ _ h => h) (Or.inl ⟨by rfl,?_⟩) ?_ ?_
        rotate_left
        ·intro w'
         go_simp
         with_reducible rfl
        rotate_left
        ·simp only [czP]
         rfl
        refine pure_ (i := 2) (N := some 22) (v := ?_) (a' := ?_) #[true,true,true,false,false,false,false,false,false,false,false,false,false,false] rfl rfl (any_of HT_.out (by kernel_rfl)) (fun _ _ _ h => h) (Or.inl ⟨by rfl,?_⟩) ?_ ?_
        rotate_left
        ·intro w'
         go_simp
         with_reducible rfl
        rotate_left
        ·simp only [czP]
         rfl
        refine pure_ (i := 3) (N := some 23) (v := undef) (a' := ?_) #[true,true,true,true,false,false,false,false,false,false,false,false,false,false] rfl rfl (any_of HT_.out (by kernel_rfl)) (fun _ _ _ h => h) (Or.inr ⟨by rfl,rfl⟩) ?_ ?_
        rotate_left
        ·simp only [czP]
         rfl
        refine pure_ (i := 4) (N := some 24) (v := undef) (a' := ?_) #[true,true,true,true,true,false,false,false,false,false,false,false,false,false] rfl rfl (any_of HT_.out (by kernel_rfl)) (fun _ _ _ h => h) (Or.inr ⟨by rfl,rfl⟩) ?_ ?_
        rotate_left
        ·simp only [czP]
         rfl
        refine pure_ (i := 5) (N := some 25) (v := undef) (a' := ?_) #[true,true,true,true,true,true,false,false,false,false,false,false,false,false] rfl rfl (any_of HT_.out (by kernel_rfl)) (fun _ _ _ h => h) (Or.inr ⟨by rfl,rfl⟩) ?_ ?_
        rotate_left
        ·simp only [czP]
         rfl
        refine pure_ (i := 6) (N := some 26) (v := undef) (a' := ?_) #[true,true,true,true,true,true,true,false,false,false,false,false,false,false] rfl rfl (any_of HT_.out (by kernel_rfl)) (fun _ _ _ h => h) (Or.inr ⟨by rfl,rfl⟩) ?_ ?_
        rotate_left
        ·simp only [czP]
         rfl
        refine pure_ (i := 7) (N := some 27) (v := undef) (a' := ?_) #[true,true,true,true,true,true,true,true,false,false,false,false,false,false] rfl rfl (any_of HT_.out (by kernel_rfl)) (fun _ _ _ h => h) (Or.inr ⟨by rfl,rfl⟩) ?_ ?_
        rotate_left
        ·simp only [czP]
         rfl
        refine pure_ (i := 8) (N := some 28) (v := undef) (a' := ?_) #[true,true,true,true,true,true,true,true,true,false,false,false,false,false] rfl rfl (any_of HT_.out (by kernel_rfl)) (fun _ _ _ h => h) (Or.inr ⟨by rfl,rfl⟩) ?_ ?_
        rotate_left
        ·simp only [czP]
         rfl
        refine pure_ (i := 9) (N := some 29) (v := undef) (a' := ?_) #[true,true,true,true,true,true,true,true,true,true,false,false,false,false] rfl rfl (any_of HT_.out (by kernel_rfl)) (fun _ _ _ h => h) (Or.inr ⟨by rfl,rfl⟩) ?_ ?_
        rotate_left
        ·simp only [czP]
         rfl
        refine pure_ (i := 10) (N := some 30) (v := undef) (a' := ?_) #[true,true,true,true,true,true,true,true,true,true,true,false,false,false] rfl rfl (any_of HT_.out (by kernel_rfl)) (fun _ _ _ h => h) (Or.inr ⟨by rfl,rfl⟩) ?_ ?_
        rotate_left
        ·simp only [czP]
         rfl
        refine pure_ (i := 11) (N := some 31) (v := undef) (a' := ?_) #[true,true,true,true,true,true,true,true,true,true,true,true,false,false] rfl rfl (any_of HT_.out (by kernel_rfl)) (fun _ _ _ h => h) (Or.inr ⟨by rfl,rfl⟩) ?_ ?_
        rotate_left
        ·simp only [czP]
         rfl
        refine pure_ (i := 12) (N := some 32) (v := undef) (a' := ?_) #[true,true,true,true,true,true,true,true,true,true,true,true,true,false] rfl rfl (any_of HT_.out (by kernel_rfl)) (fun _ _ _ h => h) (Or.inr ⟨by rfl,rfl⟩) ?_ ?_
        rotate_left
        ·simp only [czP]
         rfl
        refine pure_ (i := 13) (N := some 33) (v := ?_) (a' := ?_) #[true,true,true,true,true,true,true,true,true,true,true,true,true,true] rfl rfl (any_of HT_.out (by kernel_rfl)) (fun _ _ _ h => h) (Or.inl ⟨by rfl,?_⟩) ?_ ?_
        rotate_left
        ·intro w'
         go_simp
         with_reducible rfl
        rotate_left
        ·simp only [czP]
         rfl
        refine done_ (done_of HT_.out (by kernel_rfl)) ?_;have ch : cI.cell? ⟨ad,0,none⟩ = some (vi ((rd_T70 aa ab).f0)) := (blk_cell ae.out 0).trans rfl;have cj : cI.cell? ⟨ad,1,none⟩ = some (vi ((rd_T70 aa ab).f1)) := (blk_cell ae.out 1).trans rfl;have ck := blk_frozen ae.out 0;have cm := blk_frozen ae.out 1
        try go_wp2_with (first | ((with_reducible refine gate_builtin (b := .append) (xs := #[.tmp 48,.tmp 50]) rfl ?_);at_builtin;refine Kd.R_append k70 (w0 := w) w.heap.size rfl (.tmp 48) (.tmp 50) 32 70 (.agg #[(vi 0),(vi 0)]) 16 rfl Try.underlying32 info70 rfl (by decide) (by omega) (.slice bs af.length bu) af (⟨(rd_T70 aa ab).f0,(rd_T70 aa ab).f1⟩ : S70) [vi ((rd_T70 aa ab).f0),vi ((rd_T70 aa ab).f1)] (fun k_ => some k_ ≠ (.slice (some ar) aa.length aI : Value).ownBlock ∧ k_ ≠ ad) (fun _ => False) rfl rfl ?aP (fun _ hk => hk.elim) ?aF ?aO ?aB ?aS ?aL ?_;(case aP => exact k70_mkM _ _ _ (⟨(rd_T70 aa ab).f0,(rd_T70 aa ab).f1⟩ : S70));(case aB => exact Z13x1);(case aF => exact (fun k_ hk => ⟨Kd.fresh' (Kd.R_lt Z13x6) k_ hk,Kd.freshB (g := ad) (o := .cells #[vi ((rd_T70 aa ab).f0),vi ((rd_T70 aa ab).f1)] 70 (0,0)) Z13x8 k_ hk⟩));(case aO => exact Z13x7);(case aS => exact (below_size Z13x1));(case aL => have := bI.out;omega);intro cY db ho hb hg hat;rw [← bK.out] at ho;have ai := mkA (Kd.R_after (ok := (fun k_ => k_ ≠ ad)) (by (with_reducible repeat (first | apply Kd.R_alloc | apply Kd.R_drewN | apply Kd.R_drew));exact Kd.R_mono HO_12.out (fun _ hk => ⟨hk.2,hk.1⟩)) hg hat);have aj := mkA (blk_grown (g := ad) (o := .cells #[vi ((rd_T70 aa ab).f0),vi ((rd_T70 aa ab).f1)] 70 (0,0)) Z13x8 hg (Kd.R_away HO_4.out (fun _ hk => hk.2)));have ao := mkA (hb);have aq := mkA (ho);clear HO_12;clear ae;clear HB;clear HO_4;have HO_12 := ai;have ae := aj;have HB := ao;have bL := aq;clear ai aj ao aq;clear ho hb hg hat))
        (try simp only [← ah])
        go_roundg k1
        case measure => have := bw.out;omega
        case rel => exact ⟨(bJ),(aa),(wrap64 (ab + 1)),(by first | rfl | (simp;done) | (simp [*];done)),H',⟨by have := bw.out;omega⟩,⟨by (try simp only [ah]);(with_reducible repeat (first | apply Kd.R_alloc | apply Kd.R_drewN | apply Kd.R_drew));exact Kd.R_mono bL.out (fun _ hk => hk.1)⟩,⟨by (try simp only [ah]);(with_reducible repeat (first | apply Kd.R_alloc | apply Kd.R_drewN | apply Kd.R_drew));exact Kd.R_mono HO_12.out (fun _ hk => hk.2)⟩,⟨Z13x1⟩⟩
       ·rw [if_neg cb] at H
        exact absurd H (by simp)
     ·rw [if_neg c9] at H
      exact absurd H (by simp)
    ·rw [if_neg c8] at H
     exact absurd H (by simp)
   ·rw [if_neg c7] at H
    have c7b0 : decide (ab < (ak.length : Int)) = false := decide_eq_false c7
    (try (have c7b1 : decide (ab < (aa.length : Int)) = false := by rw [← ah];exact c7b0))
    clear c7;obtain rfl := Option.some.inj H;simp only [Option.some.injEq,Prod.mk.injEq] at H;obtain ⟨rfl⟩ := H
    go_wp2
    go_ret
    exact ⟨_,by first | rfl | (simp [errW_none,errW_some] <;> rfl) | (simp [*,errW_none,errW_some] <;> rfl),by (with_reducible repeat (first | apply Kd.R_alloc | apply Kd.R_drewN | apply Kd.R_drew));exact Kd.R_mono HO_4.out (fun _ hk => trivial),Z13x0⟩

end Go.Proofs.Ytdciagkholijlaa.PFnEntries
