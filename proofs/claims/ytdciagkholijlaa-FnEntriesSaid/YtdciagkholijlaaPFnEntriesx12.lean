-- Written by this session's changed copy of the kit's printer (wip/patch_print.py): not the kit's own print.
import Derived.Test.YtdciagkholijlaaPFnEntriesx0
import Derived.Test.YtdciagkholijlaaPFnEntriesx2
import Derived.Test.YtdciagkholijlaaPFnEntriesx4
import Derived.Test.YtdciagkholijlaaPFnEntriesx6
import Derived.Test.YtdciagkholijlaaPFnEntriesx7
import Derived.Test.YtdciagkholijlaaPFnEntriesx9
import Derived.Test.YtdciagkholijlaaPFnEntriesx11
namespace Go.Proofs.Ytdciagkholijlaa.PFnEntries
open Go.RowKit Go.Proofs.YtdciagkholijlaaW.PrintWords Go.Proofs.YtdciagkholijlaaW.PrintLast Go.Proofs.YtdciagkholijlaaW.PrintMore
attribute [local go_sem] max2_int min2_int max_two min_two max_three min_three max_four min_four   -- for this text's walks alone
set_option linter.unusedVariables false
set_option linter.unusedSimpArgs false
set_option maxHeartbeats 8000000
set_option maxRecDepth 100000
theorem Z12x0 {p : Prop} (h : p := by repeat (first | (with_reducible first | exact ar.out | apply IsS95.alloc | apply IsS95.drewN | apply IsS95.drew | apply IsS95.set_1 | apply IsS95.set_2) | exact ar.out)) : p := h
theorem Z12x1 {p : Prop} (h : p := by repeat (first | (with_reducible first | exact HK.out | apply KeepBut.set_ | apply keep_drewN | apply keep_drew | apply keep_alloc) | exact HK.out)) : p := h
theorem Z12x2 {p : Prop} (h : p := by repeat (first | (with_reducible first | exact HB.out | apply below_alloc | apply pw_below_drewN | apply below_drew1 | refine below_set ?_ (IsS95.ge ar.out)) | exact HB.out)) : p := h
theorem Z12x3 {p : Prop} (h : p := by repeat (first | (with_reducible first | exact HB.out | apply below_alloc | apply pw_below_drewN | apply below_drew1) | exact HB.out)) : p := h
theorem Z12x4 {p : Prop} (h : p := by (try simp only [List.map_toArray,List.map_cons,List.map_nil]);first | done | rfl | (simp only [List.length_drop,List.length_take];rfl)) : p := h
theorem Z12x5 {p : Prop} (h : p := by repeat (first | (with_reducible first | exact HB.out | apply below_alloc | apply pw_below_drewN | apply below_drew1 | refine below_set ?_ b_.out) | exact HB.out)) : p := h
theorem Z12x6 {p : Prop} (h : p := by (with_reducible repeat (first | refine blk_drewN ?_ _ | refine blk_drew ?_ | refine blk_alloc ?_ _));exact af.out) : p := h
theorem Z12x7 {p : Prop} (h : p := by (with_reducible repeat (first | apply Kd.R_alloc | apply Kd.R_drewN | apply Kd.R_drew));exact aq.out) : p := h
theorem Z12x8 {p : Prop} (h : p := by (with_reducible repeat (first | apply Kd.R_alloc | apply Kd.R_drewN | apply Kd.R_drew));exact HO_3.out) : p := h
theorem Z12x9 {p : Prop} (h : p := by first | rfl | (simp [errW_none,errW_some] <;> rfl) | (simp [*,errW_none,errW_some] <;> rfl)) : p := h
theorem Z12x10 {p : Prop} (h : p := by (with_reducible repeat (first | apply Kd.R_alloc | apply Kd.R_drewN | apply Kd.R_drew));exact ax.out) : p := h
theorem Z12x11 {p : Prop} (h : p := by (with_reducible repeat (first | refine blk_drewN ?_ _ | refine blk_drew ?_ | refine blk_alloc ?_ _));refine blk_far ?_ ao.out _;(with_reducible repeat (first | refine blk_drewN ?_ _ | refine blk_drew ?_ | refine blk_alloc ?_ _));refine blk_far ?_ ao.out _;(with_reducible repeat (first | refine blk_drewN ?_ _ | refine blk_drew ?_ | refine blk_alloc ?_ _));exact af.out) : p := h
theorem Z12x12 {p : Prop} (h : p := by repeat (first | (with_reducible first | exact HB.out | apply below_alloc | apply pw_below_drewN | apply below_drew1 | refine below_set ?_ b_.out | refine below_set ?_ bE.out) | exact HB.out)) : p := h
theorem Z12x13 {p : Prop} (h : p := by first | rfl | (simp;done) | (simp [*];done)) : p := h
theorem Z12x14 {p : Prop} (h : p := by first | (with_reducible assumption) | assumption) : p := h
theorem Z12x15 {p : Prop} (h : p := by rw [hg];exact Nat.ne_of_lt (blk_lt (g := aj) (o := .cells #[vi ((rd_T70 l0 aa).f0),vi ((rd_T70 l0 aa).f1)] 70 (0,0)) Z12x6)) : p := h
theorem Z12x16 {p : Prop} (h : p := by rw [hg];exact Nat.ne_of_gt (blk_lt (g := aj) (o := .cells #[vi ((rd_T70 l0 aa).f0),vi ((rd_T70 l0 aa).f1)] 70 (0,0)) Z12x6)) : p := h

def spec_l5Right.l0 : Nat → List (S70) → Int → Int → List Int → Int → Int → Option ((List (S70)) × Int × Int)
 | 0,_,_,_,_,_,_ => none
 | k + 1,x3,x4,x5,aN,ca,cb => if x5 < x4 then ((spec_l1Below.f aN ca cb 20).bind fun bF => ((spec_l1Below.f aN bF.2.1 bF.2.2 20).bind fun bG => ((spec_l1Below.f aN bG.2.1 bG.2.2 10).bind fun bH => ((spec_l1PickInt.f aN bH.2.1 bH.2.2 (([bF.1,bG.1,wrap64 (9990 + bH.1)] : List Int))).bind fun aA => ((spec_l1Below.f aN aA.2.1 aA.2.2 3).bind fun aH => ((spec_l1Min.f (wrap64 (aA.1 + aH.1)) 9999).bind fun bq => ((spec_l5Put.f k x3 aA.1 bq).bind fun bz => (spec_l5Right.l0 k bz x4 (wrap64 (x5 + 1)) aN aH.2.1 aH.2.2)))))))) else (some (x3,ca,cb))
def spec_l5Right.f (k : Nat) (ab : List Int) (aC : Int) (aD : Int) : Option ((List (S70)) × Int × Int) := (spec_l1Below.f ab aC aD 7).bind fun aI => (spec_l5Right.l0 k (([] : List (S70))) aI.1 0 ab aI.2.1 aI.2.2)
theorem spec_l5Right.calls (k : Nat) (g : Nat) (ab : List Int) (aC : Int) (aD : Int) (r1 : List (S70)) (r2 : Int) (r3 : Int) (w0 w : World) (hI : IsS95 w0 w g ab aC aD) (hB : Below w0.heap.size w0 w) (h : spec_l5Right.f k ab aC aD = some (r1,r2,r3)) :
  Calls Try.prog 113 #[.pointer (some ⟨g,0,none⟩)] w fun e w' => ∃ bI : Value,e = .returned (bI) ∧ Kd.R k70 70 w' w.heap.size (fun _ => True) bI r1 ∧ IsS95 w0 w' g ab r2 r3 ∧ Below w0.heap.size w0 w' ∧ KeepBut w w' g none := by
 have cO := Try.underlying70
 have ar := mkA hI
 have HK := mkA (KeepBut.refl w g none)
 have HL := mkA hB.size
 clear hI
 have eO := mkA hB.size
 have HB := mkA hB
 clear hB
 have H := h
 unfold spec_l5Right.f at H
 clear h
 obtain ⟨cP,aY⟩ : ∃ y_ : List (S70),y_ = (([] : List (S70))) := ⟨_,rfl⟩
 replace H : ((spec_l1Below.f ab aC aD 7).bind fun aI => (spec_l5Right.l0 k cP aI.1 0 ab aI.2.1 aI.2.2)) = some (r1,r2,r3) := by first | (rw [aY];with_reducible exact H) | (have a8 := (Option.bind_some _ _).symm.trans H;rw [aY];with_reducible exact a8) | (have a8 := (Option.bind_some _ _).symm.trans H;with_reducible exact a8) | with_reducible exact H | (rw [aY];exact H) | exact H
 have cc := mkA aY
 clear aY
 replace H := Option.bind_eq_some_iff.mp H
 obtain ⟨⟨b0,cQ,cR⟩,cS,H⟩ := H
 try dsimp only at H
 have A2 := mkA cS
 clear cS
 have H' := mkA H
 clear H
 go_enter Try.func113,Try.ntmps113
 go_wp2_with (first | ((with_reducible refine gate_dst (N := 7) rfl ?_);refine Kd.R_lit k70 _ 70 ?hg (N := 7) ?hd (xs := ([] : List (S70))) (inner := []) (ok := fun _ => True) (okp := fun _ => True) ?hr ?hp (fun _ hk => hk) trivial (Below.refl _ _) (Nat.le_refl _) (by simp) ?_;(case hd => rfl);(case hg => rfl);(case hr => first | (go_simp;done) | (go_simp;rfl));(case hp => exact (Reps.none _ _));intro eP w3 bJ hb hg_ hnew_;clear hg_ hnew_;(first | rw [← cc.out] at bJ | (simp only [Int.reduceToNat] at bJ;rw [← cc.out] at bJ));have ag := mkA (Kd.R_lower bJ (keep_size (w := w) (g := g) (row := none) Z12x1));have ai := mkA (IsS95.below Z12x0 hb);have ak := mkA (KeepBut.trans Z12x1 (KeepBut.of_below hb g none) (.inl rfl));have al := mkA (below_step Z12x2 hb);clear ar;clear HK;clear HB;have bu := ag;have ar := ai;have HK := ak;have HB := al;clear ag ai ak al;clear hb bJ) | ((with_reducible refine gate_callee (f := 34) rfl ?_);refine goesL_ (some 9) rfl rfl Try.func34 (by kernel_rfl) rfl #[.pointer (some ⟨g,0,none⟩),vi 7] rfl Z12x4 ?_;(with_reducible refine (spec_l1Below.calls g ab aC aD 7 b0 cQ cR w0 _ ?ad ?ae A2.out).mono ?_);(case ad => exact Z12x0);(case ae => exact Z12x2);rintro e w5 ⟨rfl,hi,hb,hk⟩;refine ⟨_,rfl,?_⟩;have ag := mkA (Kd.R_mono (Kd.R_keep (IsS95.apart (show IsS95 w0 _ g ab aC aD from Z12x0) (by (with_reducible repeat (first | apply Kd.R_alloc | apply Kd.R_drewN | apply Kd.R_drew));exact bu.out) (by decide)) hk (fun _ h => h.2)) (fun _ h => h.1));have ai := mkA (KeepBut.trans Z12x1 hk (.inl rfl));have ak := mkA (hb);have al := mkA (hi);clear bu;clear HK;clear HB;clear ar;have bu := ag;have HK := ai;have HB := ak;have ar := al;clear ag ai ak al;(try clear hb);(try clear aZ);(try clear hk);(try clear hi)))
 go_loopg [3,5] k (fun kq v3 v5 w' => ∃ (b1 : List (S70)) (a_ : Int) (aE : Int) (aG : Int),v5 = vi a_ ∧ Aside0 (spec_l5Right.l0 kq b1 b0 a_ ab aE aG = some (r1,r2,r3)) ∧ Aside0 (kq ≤ k) ∧ Aside0 (Kd.R k70 70 w' w.heap.size (fun _ => True) v3 b1) ∧ Aside0 (IsS95 w0 w' g ab aE aG) ∧ Aside0 (KeepBut w w' g none) ∧ Aside0 (Below w0.heap.size w0 w'))
 case atStart => exact ⟨(cP),(0),(cQ),(cR),Z12x13,H',⟨Nat.le_refl _⟩,⟨by (with_reducible repeat (first | apply Kd.R_alloc | apply Kd.R_drewN | apply Kd.R_drew));exact bu.out⟩,⟨Z12x0⟩,⟨Z12x1⟩,⟨Z12x2⟩⟩
 case round =>
  clear H'
  try clear c1
  try clear p2
  try clear c3
  obtain ⟨b1,a_,aE,aG,rfl,HA,e3,HO_3,ar,HK,HB⟩ := hrel
  cases gk with
  | zero => exact absurd HA.out (by simp [spec_l5Right.l0])
  | succ k1 =>
   have H := HA.out
   clear HA
   simp only [spec_l5Right.l0] at H
   by_cases c6 : a_ < b0
   ·rw [if_pos c6] at H
    have c6b0 : decide (a_ < b0) = true := decide_eq_true c6;clear c6;replace H := Option.bind_eq_some_iff.mp H;obtain ⟨⟨b2,cu,cv⟩,e7,H⟩ := H
    try dsimp only at H
    have A7 := mkA e7;clear e7;replace H := Option.bind_eq_some_iff.mp H;obtain ⟨⟨b3,cw,cx⟩,e8,H⟩ := H
    try dsimp only at H
    have A8 := mkA e8;clear e8;replace H := Option.bind_eq_some_iff.mp H;obtain ⟨⟨b4,bK,bL⟩,e9,H⟩ := H
    try dsimp only at H
    have A9 := mkA e9;clear e9;obtain ⟨cy,ba⟩ : ∃ y_ : List Int,y_ = (([b2,b3,wrap64 (9990 + b4)] : List Int)) := ⟨_,rfl⟩
    replace H : ((spec_l1PickInt.f ab bK bL cy).bind fun aA => ((spec_l1Below.f ab aA.2.1 aA.2.2 3).bind fun aH => ((spec_l1Min.f (wrap64 (aA.1 + aH.1)) 9999).bind fun bq => ((spec_l5Put.f k1 b1 aA.1 bq).bind fun bz => (spec_l5Right.l0 k1 bz b0 (wrap64 (a_ + 1)) ab aH.2.1 aH.2.2))))) = some (r1,r2,r3) := by first | (rw [ba];with_reducible exact H) | (have a8 := (Option.bind_some _ _).symm.trans H;rw [ba];with_reducible exact a8) | (have a8 := (Option.bind_some _ _).symm.trans H;with_reducible exact a8) | with_reducible exact H | (rw [ba];exact H) | exact H
    have cd := mkA ba;clear ba;replace H := Option.bind_eq_some_iff.mp H;obtain ⟨⟨bM,bS,bT⟩,cT,H⟩ := H
    try dsimp only at H
    have eQ := mkA cT;clear cT;replace H := Option.bind_eq_some_iff.mp H;obtain ⟨⟨cz,cU,cV⟩,cW,H⟩ := H
    try dsimp only at H
    have eR := mkA cW;clear cW;replace H := Option.bind_eq_some_iff.mp H;obtain ⟨bq,cX,H⟩ := H
    try dsimp only at H
    have eS := mkA cX;clear cX;replace H := Option.bind_eq_some_iff.mp H;obtain ⟨bz,cY,H⟩ := H
    try dsimp only at H
    have eT := mkA cY;clear cY;have H' := mkA H;clear H
    go_wp2_with (first | ((with_reducible refine gate_callee (f := 34) rfl ?_);refine goesL_ (some 17) rfl rfl Try.func34 (by kernel_rfl) rfl #[.pointer (some ⟨g,0,none⟩),vi 20] rfl Z12x4 ?_;(with_reducible refine (spec_l1Below.calls g ab aE aG 20 b2 cu cv w0 _ ?ad ?ae A7.out).mono ?_);(case ad => exact Z12x0);(case ae => exact Z12x2);rintro e dp ⟨rfl,hi,hb,hk⟩;refine ⟨_,rfl,?_⟩;have ag := mkA (Kd.R_mono (Kd.R_keep (IsS95.apart (show IsS95 w0 _ g ab aE aG from Z12x0) Z12x8 (by decide)) hk (fun _ h => h.2)) (fun _ h => h.1));have ai := mkA (KeepBut.trans Z12x1 hk (.inl rfl));have ak := mkA (hb);have al := mkA (hi);clear HO_3;clear HK;clear HB;clear ar;have HO_3 := ag;have HK := ai;have HB := ak;have ar := al;clear ag ai ak al;(try clear hb);(try clear aZ);(try clear hk);(try clear hi)) | ((with_reducible refine gate_callee (f := 34) rfl ?_);refine goesL_ (some 19) rfl rfl Try.func34 (by kernel_rfl) rfl #[.pointer (some ⟨g,0,none⟩),vi 20] rfl Z12x4 ?_;(with_reducible refine (spec_l1Below.calls g ab cu cv 20 b3 cw cx w0 _ ?ad ?ae A8.out).mono ?_);(case ad => exact Z12x0);(case ae => exact Z12x2);rintro e fl ⟨rfl,hi,hb,hk⟩;refine ⟨_,rfl,?_⟩;have ag := mkA (Kd.R_mono (Kd.R_keep (IsS95.apart (show IsS95 w0 _ g ab cu cv from Z12x0) Z12x8 (by decide)) hk (fun _ h => h.2)) (fun _ h => h.1));have ai := mkA (KeepBut.trans Z12x1 hk (.inl rfl));have ak := mkA (hb);have al := mkA (hi);clear HO_3;clear HK;clear HB;clear ar;have HO_3 := ag;have HK := ai;have HB := ak;have ar := al;clear ag ai ak al;(try clear hb);(try clear aZ);(try clear hk);(try clear hi)) | ((with_reducible refine gate_callee (f := 34) rfl ?_);refine goesL_ (some 21) rfl rfl Try.func34 (by kernel_rfl) rfl #[.pointer (some ⟨g,0,none⟩),vi 10] rfl Z12x4 ?_;(with_reducible refine (spec_l1Below.calls g ab cw cx 10 b4 bK bL w0 _ ?ad ?ae A9.out).mono ?_);(case ad => exact Z12x0);(case ae => exact Z12x2);rintro e fm ⟨rfl,hi,hb,hk⟩;refine ⟨_,rfl,?_⟩;have ag := mkA (Kd.R_mono (Kd.R_keep (IsS95.apart (show IsS95 w0 _ g ab cw cx from Z12x0) Z12x8 (by decide)) hk (fun _ h => h.2)) (fun _ h => h.1));have ai := mkA (KeepBut.trans Z12x1 hk (.inl rfl));have ak := mkA (hb);have al := mkA (hi);clear HO_3;clear HK;clear HB;clear ar;have HO_3 := ag;have HK := ai;have HB := ak;have ar := al;clear ag ai ak al;(try clear hb);(try clear aZ);(try clear hk);(try clear hi)) | ((with_reducible refine gate_dst (N := 23) rfl ?_);refine Kd.R_lit (Kd.int .i64) _ 3 ?hg (N := 23) ?hd (xs := ([b2,b3,wrap64 (9990 + b4)] : List Int)) (inner := [vi b2,vi b3,vi (wrap64 (9990 + b4))]) (ok := fun _ => True) (okp := fun _ => True) ?hr ?hp (fun _ hk => hk) trivial (Below.refl _ _) (Nat.le_refl _) (by simp) ?_;(case hd => rfl);(case hg => rfl);(case hr => first | (go_simp;done) | (go_simp;rfl));(case hp => exact (Reps.one (show Kd.M (Kd.int .i64) _ _ _ b2 [vi b2] from rfl) (Reps.one (show Kd.M (Kd.int .i64) _ _ _ b3 [vi b3] from rfl) (Reps.one (show Kd.M (Kd.int .i64) _ _ _ (wrap64 (9990 + b4)) [vi (wrap64 (9990 + b4))] from rfl) (Reps.none _ _)))));intro eU eV bN hb hg_ hnew_;clear hg_ hnew_;(first | rw [← cd.out] at bN | (simp only [Int.reduceToNat] at bN;rw [← cd.out] at bN));have ag := mkA (Kd.R_below Z12x8 hb);have ai := mkA (Kd.R_lower bN (keep_size (w := w) (g := g) (row := none) Z12x1));have ak := mkA (IsS95.below Z12x0 hb);have al := mkA (KeepBut.trans Z12x1 (KeepBut.of_below hb g none) (.inl rfl));have a1 := mkA (below_step Z12x2 hb);clear HO_3;clear ar;clear HK;clear HB;have HO_3 := ag;have ay := ai;have ar := ak;have HK := al;have HB := a1;clear ag ai ak al a1;clear hb bN;obtain ⟨dW,dX,dY⟩ := Kd.R_slice ay.out;subst dY) | ((with_reducible refine gate_callee (f := 39) rfl ?_);refine goesL_ (some 24) rfl rfl Try.func39 (by kernel_rfl) rfl #[.pointer (some ⟨g,0,none⟩),.slice dW cy.length dX] rfl Z12x4 ?_;(with_reducible refine (spec_l1PickInt.calls g ab bK bL _ _ cy bM bS bT w0 _ ?ad ?ae ?bb ?bc ?bd eQ.out).mono ?_);(case ad => exact Z12x0);(case ae => exact Z12x2);(case bb => repeat (first | exact (Kd.R_reads' ay.out).2.2 | (with_reducible refine Kd.C_alloc ?_ _) | (with_reducible refine Kd.C_drewN ?_ _) | (with_reducible refine Kd.C_drew ?_)));(case bc => exact (Kd.R_reads' ay.out).2.1);(case bd => exact far_slice (IsS95.own_ne ar.out ay.out (by decide)));rintro e eW ⟨rfl,hi,hb,hk⟩;refine ⟨_,rfl,?_⟩;have ag := mkA (Kd.R_mono (Kd.R_keep (IsS95.apart (show IsS95 w0 _ g ab bK bL from Z12x0) Z12x8 (by decide)) hk (fun _ h => h.2)) (fun _ h => h.1));have ai := mkA (Kd.R_mono (Kd.R_keep (IsS95.apart (show IsS95 w0 _ g ab bK bL from Z12x0) (by (with_reducible repeat (first | apply Kd.R_alloc | apply Kd.R_drewN | apply Kd.R_drew));exact ay.out) (by decide)) hk (fun _ h => h.2)) (fun _ h => h.1));have ak := mkA (KeepBut.trans Z12x1 hk (.inl rfl));have al := mkA (hb);have a1 := mkA (hi);clear HO_3;clear ay;clear HK;clear HB;clear ar;have HO_3 := ag;have ay := ai;have HK := ak;have HB := al;have ar := a1;clear ag ai ak al a1;(try clear hb);(try clear aZ);(try clear hk);(try clear hi)) | ((with_reducible refine gate_callee (f := 34) rfl ?_);refine goesL_ (some 29) rfl rfl Try.func34 (by kernel_rfl) rfl #[.pointer (some ⟨g,0,none⟩),vi 3] rfl Z12x4 ?_;(with_reducible refine (spec_l1Below.calls g ab bS bT 3 cz cU cV w0 _ ?ad ?ae eR.out).mono ?_);(case ad => exact Z12x0);(case ae => exact Z12x2);rintro e cZ ⟨rfl,hi,hb,hk⟩;refine ⟨_,rfl,?_⟩;have ag := mkA (Kd.R_mono (Kd.R_keep (IsS95.apart (show IsS95 w0 _ g ab bS bT from Z12x0) Z12x8 (by decide)) hk (fun _ h => h.2)) (fun _ h => h.1));have ai := mkA (Kd.R_mono (Kd.R_keep (IsS95.apart (show IsS95 w0 _ g ab bS bT from Z12x0) (by (with_reducible repeat (first | apply Kd.R_alloc | apply Kd.R_drewN | apply Kd.R_drew));exact ay.out) (by decide)) hk (fun _ h => h.2)) (fun _ h => h.1));have ak := mkA (KeepBut.trans Z12x1 hk (.inl rfl));have al := mkA (hb);have a1 := mkA (hi);clear HO_3;clear ay;clear HK;clear HB;clear ar;have HO_3 := ag;have ay := ai;have HK := ak;have HB := al;have ar := a1;clear ag ai ak al a1;(try clear hb);(try clear aZ);(try clear hk);(try clear hi)) | ((with_reducible refine gate_callee (f := 108) rfl ?_);refine goesL_ (some 31) rfl rfl Try.func108 (by kernel_rfl) rfl #[vi (wrap64 (bM + cz)),vi 9999] rfl Z12x4 ?_;(with_reducible refine (spec_l1Min.calls (wrap64 (bM + cz)) 9999 bq _ eS.out).mono ?_);rintro e w' ⟨rfl,⟨nd,rfl⟩⟩;refine ⟨_,rfl,?_⟩;obtain ⟨dZ,d_,ea⟩ := Kd.R_slice HO_3.out;subst ea) | ((with_reducible refine gate_callee (f := 106) rfl ?_);refine goesL_ (some 33) rfl rfl Try.func106 (by kernel_rfl) rfl #[.slice dZ b1.length d_,.agg #[vi bM,vi bq]] rfl Z12x4 ?_;(with_reducible refine (spec_l5Put.calls k1 _ _ b1 bM bq bz _ ?ad ?ae eT.out).mono ?_);(case ad => repeat (first | exact (Kd.R_reads' HO_3.out).2.2 | (with_reducible refine Kd.C_alloc ?_ _) | (with_reducible refine Kd.C_drewN ?_ _) | (with_reducible refine Kd.C_drew ?_)));(case ae => exact (Kd.R_reads' HO_3.out).2.1);rintro e fo ⟨eX,rfl,br,hb⟩;refine ⟨_,rfl,?_⟩;have ag := mkA (Kd.R_elder' Z12x8 (Kd.R_base br) hb);have ai := mkA (Kd.R_below (by (with_reducible repeat (first | apply Kd.R_alloc | apply Kd.R_drewN | apply Kd.R_drew));exact ay.out) hb);have ak := mkA (Kd.R_lower (Kd.R_new' br (Kd.R_lt Z12x8)) (keep_size (w := w) (g := g) (row := none) Z12x1));have al := mkA (IsS95.below Z12x0 hb);have a1 := mkA (KeepBut.trans Z12x1 (KeepBut.of_below hb g none) (.inl rfl));have aQ := mkA (below_step Z12x2 hb);clear HO_3;clear ay;clear ar;clear HK;clear HB;have HO_3 := ag;have ay := ai;have c_ := ak;have ar := al;have HK := a1;have HB := aQ;clear ag ai ak al a1 aQ;(try clear hb);(try clear aZ);(try clear hk);(try clear hi);(try clear br)))
    go_roundg k1
    case measure => have := e3.out;omega
    case rel => exact ⟨(bz),(wrap64 (a_ + 1)),(cU),(cV),Z12x13,H',⟨by have := e3.out;omega⟩,⟨by (with_reducible repeat (first | apply Kd.R_alloc | apply Kd.R_drewN | apply Kd.R_drew));exact Kd.R_mono c_.out (fun _ hk => trivial)⟩,⟨Z12x0⟩,⟨Z12x1⟩,⟨Z12x2⟩⟩
   ·rw [if_neg c6] at H
    have c6b0 : decide (a_ < b0) = false := decide_eq_false c6;clear c6;simp only [Option.some.injEq,Prod.mk.injEq] at H;obtain ⟨rfl,rfl,rfl⟩ := H
    go_wp2
    go_ret
    exact ⟨_,Z12x9,Z12x8,Z12x0,Z12x2,Z12x1⟩

def spec_l5Draw.f (k : Nat) (ab : List Int) (aC : Int) (aD : Int) : Option ((List (S70)) × Int × Int) := (spec_l5Right.f k ab aC aD).bind fun bf => ((spec_l1Once.f ab bf.2.1 bf.2.2 8).bind fun bg => (if bg.1 = true then ((spec_l1PickInt.f ab bg.2.1 bg.2.2 (([(-1),3,10000] : List Int))).bind fun aJ => ((spec_l1PickInt.f ab aJ.2.1 aJ.2.2 (([5,10000,9223372036854775807] : List Int))).bind fun a6 => (if bf.1.length < 8796093022208 then (some ((bf.1 ++ [(⟨aJ.1,a6.1⟩ : S70)]),a6.2.1,a6.2.2)) else (none)))) else (some (bf.1,bg.2.1,bg.2.2))))
theorem spec_l5Draw.calls (k : Nat) (g : Nat) (ab : List Int) (aC : Int) (aD : Int) (r1 : List (S70)) (r2 : Int) (r3 : Int) (w0 w : World) (hI : IsS95 w0 w g ab aC aD) (hB : Below w0.heap.size w0 w) (h : spec_l5Draw.f k ab aC aD = some (r1,r2,r3)) :
  Calls Try.prog 100 #[.pointer (some ⟨g,0,none⟩)] w fun e w' => ∃ bI : Value,e = .returned (bI) ∧ Kd.R k70 70 w' w.heap.size (fun _ => True) bI r1 ∧ IsS95 w0 w' g ab r2 r3 ∧ Below w0.heap.size w0 w' ∧ KeepBut w w' g none := by
 have cO := Try.underlying70
 have ar := mkA hI
 have HK := mkA (KeepBut.refl w g none)
 have HL := mkA hB.size
 clear hI
 have eO := mkA hB.size
 have HB := mkA hB
 clear hB
 have H := h
 unfold spec_l5Draw.f at H
 clear h
 replace H := Option.bind_eq_some_iff.mp H
 obtain ⟨⟨aT,b5,b6⟩,cS,H⟩ := H
 try dsimp only at H
 have A2 := mkA cS
 clear cS
 replace H := Option.bind_eq_some_iff.mp H
 obtain ⟨⟨eb,b7,b8⟩,eA,H⟩ := H
 try dsimp only at H
 have A3 := mkA eA
 clear eA
 by_cases c4 : eb = true
 ·subst c4
  rw [if_pos rfl] at H
  obtain ⟨cA,bh⟩ : ∃ y_ : List Int,y_ = (([(-1),3,10000] : List Int)) := ⟨_,rfl⟩
  replace H : ((spec_l1PickInt.f ab b7 b8 cA).bind fun aJ => ((spec_l1PickInt.f ab aJ.2.1 aJ.2.2 (([5,10000,9223372036854775807] : List Int))).bind fun a6 => (if aT.length < 8796093022208 then (some ((aT ++ [(⟨aJ.1,a6.1⟩ : S70)]),a6.2.1,a6.2.2)) else (none)))) = some (r1,r2,r3) := by first | (rw [bh];with_reducible exact H) | (have a8 := (Option.bind_some _ _).symm.trans H;rw [bh];with_reducible exact a8) | (have a8 := (Option.bind_some _ _).symm.trans H;with_reducible exact a8) | with_reducible exact H | (rw [bh];exact H) | exact H
  have cf := mkA bh
  clear bh
  replace H := Option.bind_eq_some_iff.mp H
  obtain ⟨⟨b9,bA,bB⟩,eB,H⟩ := H
  try dsimp only at H
  have A5 := mkA eB
  clear eB
  obtain ⟨cB,bj⟩ : ∃ y_ : List Int,y_ = (([5,10000,9223372036854775807] : List Int)) := ⟨_,rfl⟩
  replace H : ((spec_l1PickInt.f ab bA bB cB).bind fun a6 => (if aT.length < 8796093022208 then (some ((aT ++ [(⟨b9,a6.1⟩ : S70)]),a6.2.1,a6.2.2)) else (none))) = some (r1,r2,r3) := by first | (rw [bj];with_reducible exact H) | (have a8 := (Option.bind_some _ _).symm.trans H;rw [bj];with_reducible exact a8) | (have a8 := (Option.bind_some _ _).symm.trans H;with_reducible exact a8) | with_reducible exact H | (rw [bj];exact H) | exact H
  have cg := mkA bj
  clear bj
  replace H := Option.bind_eq_some_iff.mp H
  obtain ⟨⟨bO,da,db⟩,dc,H⟩ := H
  try dsimp only at H
  have A6 := mkA dc
  clear dc
  by_cases c7 : aT.length < 8796093022208
  ·rw [if_pos c7] at H
   have ec := mkA c7
   clear c7
   obtain ⟨ed,bk⟩ : ∃ y_ : List (S70),y_ = (aT ++ [(⟨b9,bO⟩ : S70)]) := ⟨_,rfl⟩
   replace H : (some (ed,da,db)) = some (r1,r2,r3) := by first | (rw [bk];with_reducible exact H) | (have a8 := (Option.bind_some _ _).symm.trans H;rw [bk];with_reducible exact a8) | (have a8 := (Option.bind_some _ _).symm.trans H;with_reducible exact a8) | with_reducible exact H | (rw [bk];exact H) | exact H
   have dd := mkA bk
   clear bk
   simp only [Option.some.injEq,Prod.mk.injEq] at H
   obtain ⟨rfl,rfl,rfl⟩ := H
   go_enter Try.func100,Try.ntmps100
   go_wp2_with (first | ((with_reducible refine gate_callee (f := 113) rfl ?_);refine goesL_ (some 5) rfl rfl Try.func113 (by kernel_rfl) rfl #[.pointer (some ⟨g,0,none⟩)] rfl Z12x4 ?_;(with_reducible refine (spec_l5Right.calls k g ab aC aD aT b5 b6 w0 _ ?ad ?ae A2.out).mono ?_);(case ad => exact Z12x0);(case ae => exact Z12x2);rintro e w8 ⟨de,rfl,br,hi,hb,hk⟩;refine ⟨_,rfl,?_⟩;have ag := mkA (Kd.R_lower br (keep_size (w := w) (g := g) (row := none) Z12x1));have ai := mkA (KeepBut.trans Z12x1 hk (.inl rfl));have ak := mkA (hb);have al := mkA (hi);clear HK;clear HB;clear ar;have aq := ag;have HK := ai;have HB := ak;have ar := al;clear ag ai ak al;(try clear hb);(try clear aZ);(try clear hk);(try clear hi);(try clear br)) | ((with_reducible refine gate_callee (f := 87) rfl ?_);refine goesL_ (some 7) rfl rfl Try.func87 (by kernel_rfl) rfl #[.pointer (some ⟨g,0,none⟩),vi 8] rfl Z12x4 ?_;(with_reducible refine (spec_l1Once.calls g ab b5 b6 8 true b7 b8 w0 _ ?ad ?ae A3.out).mono ?_);(case ad => exact Z12x0);(case ae => exact Z12x2);rintro e w9 ⟨rfl,hi,hb,hk⟩;refine ⟨_,rfl,?_⟩;have ag := mkA (Kd.R_mono (Kd.R_keep (IsS95.apart (show IsS95 w0 _ g ab b5 b6 from Z12x0) Z12x7 (by decide)) hk (fun _ h => h.2)) (fun _ h => h.1));have ai := mkA (KeepBut.trans Z12x1 hk (.inl rfl));have ak := mkA (hb);have al := mkA (hi);clear aq;clear HK;clear HB;clear ar;have aq := ag;have HK := ai;have HB := ak;have ar := al;clear ag ai ak al;(try clear hb);(try clear aZ);(try clear hk);(try clear hi)) | ((with_reducible refine gate_dst (N := 10) rfl ?_);refine Kd.R_lit (Kd.int .i64) _ 3 ?hg (N := 10) ?hd (xs := ([(-1),3,10000] : List Int)) (inner := [vi (-1),vi 3,vi 10000]) (ok := fun _ => True) (okp := fun _ => True) ?hr ?hp (fun _ hk => hk) trivial (Below.refl _ _) (Nat.le_refl _) (by simp) ?_;(case hd => rfl);(case hg => rfl);(case hr => first | (go_simp;done) | (go_simp;rfl));(case hp => exact (Reps.one (show Kd.M (Kd.int .i64) _ _ _ (-1) [vi (-1)] from rfl) (Reps.one (show Kd.M (Kd.int .i64) _ _ _ 3 [vi 3] from rfl) (Reps.one (show Kd.M (Kd.int .i64) _ _ _ 10000 [vi 10000] from rfl) (Reps.none _ _)))));intro eY fp bP hb hg_ hnew_;clear hg_ hnew_;(first | rw [← cf.out] at bP | (simp only [Int.reduceToNat] at bP;rw [← cf.out] at bP));have ag := mkA (Kd.R_below Z12x7 hb);have ai := mkA (Kd.R_lower bP (keep_size (w := w) (g := g) (row := none) Z12x1));have ak := mkA (IsS95.below Z12x0 hb);have al := mkA (KeepBut.trans Z12x1 (KeepBut.of_below hb g none) (.inl rfl));have a1 := mkA (below_step Z12x2 hb);clear aq;clear ar;clear HK;clear HB;have aq := ag;have ax := ai;have ar := ak;have HK := al;have HB := a1;clear ag ai ak al a1;clear hb bP;obtain ⟨ee,ef,eh⟩ := Kd.R_slice ax.out;subst eh) | ((with_reducible refine gate_callee (f := 39) rfl ?_);refine goesL_ (some 11) rfl rfl Try.func39 (by kernel_rfl) rfl #[.pointer (some ⟨g,0,none⟩),.slice ee cA.length ef] rfl Z12x4 ?_;(with_reducible refine (spec_l1PickInt.calls g ab b7 b8 _ _ cA b9 bA bB w0 _ ?ad ?ae ?bb ?bc ?bd A5.out).mono ?_);(case ad => exact Z12x0);(case ae => exact Z12x2);(case bb => repeat (first | exact (Kd.R_reads' ax.out).2.2 | (with_reducible refine Kd.C_alloc ?_ _) | (with_reducible refine Kd.C_drewN ?_ _) | (with_reducible refine Kd.C_drew ?_)));(case bc => exact (Kd.R_reads' ax.out).2.1);(case bd => exact far_slice (IsS95.own_ne ar.out ax.out (by decide)));rintro e fq ⟨rfl,hi,hb,hk⟩;refine ⟨_,rfl,?_⟩;have ag := mkA (Kd.R_mono (Kd.R_keep (IsS95.apart (show IsS95 w0 _ g ab b7 b8 from Z12x0) Z12x7 (by decide)) hk (fun _ h => h.2)) (fun _ h => h.1));have ai := mkA (Kd.R_mono (Kd.R_keep (IsS95.apart (show IsS95 w0 _ g ab b7 b8 from Z12x0) Z12x10 (by decide)) hk (fun _ h => h.2)) (fun _ h => h.1));have ak := mkA (KeepBut.trans Z12x1 hk (.inl rfl));have al := mkA (hb);have a1 := mkA (hi);clear aq;clear ax;clear HK;clear HB;clear ar;have aq := ag;have ax := ai;have HK := ak;have HB := al;have ar := a1;clear ag ai ak al a1;(try clear hb);(try clear aZ);(try clear hk);(try clear hi)) | ((with_reducible refine gate_dst (N := 13) rfl ?_);refine Kd.R_lit (Kd.int .i64) _ 3 ?hg (N := 13) ?hd (xs := ([5,10000,9223372036854775807] : List Int)) (inner := [vi 5,vi 10000,vi 9223372036854775807]) (ok := fun _ => True) (okp := fun _ => True) ?hr ?hp (fun _ hk => hk) trivial (Below.refl _ _) (Nat.le_refl _) (by simp) ?_;(case hd => rfl);(case hg => rfl);(case hr => first | (go_simp;done) | (go_simp;rfl));(case hp => exact (Reps.one (show Kd.M (Kd.int .i64) _ _ _ 5 [vi 5] from rfl) (Reps.one (show Kd.M (Kd.int .i64) _ _ _ 10000 [vi 10000] from rfl) (Reps.one (show Kd.M (Kd.int .i64) _ _ _ 9223372036854775807 [vi 9223372036854775807] from rfl) (Reps.none _ _)))));intro eZ dp bC hb hg_ hnew_;clear hg_ hnew_;(first | rw [← cg.out] at bC | (simp only [Int.reduceToNat] at bC;rw [← cg.out] at bC));have ag := mkA (Kd.R_below Z12x7 hb);have ai := mkA (Kd.R_elder' Z12x10 (Kd.R_base bC) hb);have ak := mkA (Kd.R_lower (Kd.R_new' bC (Kd.R_lt Z12x10)) (keep_size (w := w) (g := g) (row := none) Z12x1));have al := mkA (IsS95.below Z12x0 hb);have a1 := mkA (KeepBut.trans Z12x1 (KeepBut.of_below hb g none) (.inl rfl));have aQ := mkA (below_step Z12x2 hb);clear aq;clear ax;clear ar;clear HK;clear HB;have aq := ag;have ax := ai;have a7 := ak;have ar := al;have HK := a1;have HB := aQ;clear ag ai ak al a1 aQ;clear hb bC;obtain ⟨ei,ej,ek⟩ := Kd.R_slice a7.out;subst ek) | ((with_reducible refine gate_callee (f := 39) rfl ?_);refine goesL_ (some 14) rfl rfl Try.func39 (by kernel_rfl) rfl #[.pointer (some ⟨g,0,none⟩),.slice ei cB.length ej] rfl Z12x4 ?_;(with_reducible refine (spec_l1PickInt.calls g ab bA bB _ _ cB bO da db w0 _ ?ad ?ae ?bb ?bc ?bd A6.out).mono ?_);(case ad => exact Z12x0);(case ae => exact Z12x2);(case bb => repeat (first | exact (Kd.R_reads' a7.out).2.2 | (with_reducible refine Kd.C_alloc ?_ _) | (with_reducible refine Kd.C_drewN ?_ _) | (with_reducible refine Kd.C_drew ?_)));(case bc => exact (Kd.R_reads' a7.out).2.1);(case bd => exact far_slice (IsS95.own_ne ar.out a7.out (by decide)));rintro e eV ⟨rfl,hi,hb,hk⟩;refine ⟨_,rfl,?_⟩;have ag := mkA (Kd.R_mono (Kd.R_keep (IsS95.apart (show IsS95 w0 _ g ab bA bB from Z12x0) Z12x7 (by decide)) hk (fun _ h => h.2)) (fun _ h => h.1));have ai := mkA (Kd.R_mono (Kd.R_keep (IsS95.apart (show IsS95 w0 _ g ab bA bB from Z12x0) Z12x10 (by decide)) hk (fun _ h => h.2)) (fun _ h => h.1));have ak := mkA (Kd.R_mono (Kd.R_keep (IsS95.apart (show IsS95 w0 _ g ab bA bB from Z12x0) (by (with_reducible repeat (first | apply Kd.R_alloc | apply Kd.R_drewN | apply Kd.R_drew));exact a7.out) (by decide)) hk (fun _ h => h.2)) (fun _ h => h.1));have al := mkA (KeepBut.trans Z12x1 hk (.inl rfl));have a1 := mkA (hb);have aQ := mkA (hi);clear aq;clear ax;clear a7;clear HK;clear HB;clear ar;have aq := ag;have ax := ai;have a7 := ak;have HK := al;have HB := a1;have ar := aQ;clear ag ai ak al a1 aQ;(try clear hb);(try clear aZ);(try clear hk);(try clear hi)) | ((with_reducible refine gate_builtin (b := .append) (xs := #[.tmp 8,.tmp 16]) rfl ?_);at_builtin;refine Kd.R_append k70 w.heap.size rfl (.tmp 8) (.tmp 16) 32 70 (.agg #[(vi 0),(vi 0)]) 16 rfl Try.underlying32 info70 rfl (by decide) (by omega) de aT (⟨b9,bO⟩ : S70) [vi b9,vi bO] (fun _ => True) (fun _ => False) rfl rfl ?aP (fun _ hk => hk.elim) ?aF ?aO (Below.refl _ _) ?aS ?aL ?_;(case aP => exact k70_mkM _ _ _ (⟨b9,bO⟩ : S70));(case aF => exact (fun _ _ => trivial));(case aO => exact Z12x7);(case aS => exact (keep_size (w := w) (g := g) (row := none) Z12x1));(case aL => have := ec.out;omega);intro e_ fs ho hb hg hat;rw [← dd.out] at ho;have ag := mkA (IsS95.grown Z12x0 hg (IsS95.own_ne ar.out aq.out (by decide)));have ai := mkA (Kd.R_over' Z12x10 (Kd.R_typed Z12x7) (by decide) hg);have ak := mkA (Kd.R_over' (by (with_reducible repeat (first | apply Kd.R_alloc | apply Kd.R_drewN | apply Kd.R_drew));exact a7.out) (Kd.R_typed Z12x7) (by decide) hg);have al := mkA (below_weaken Z12x2 HL.out hb);have a1 := mkA (KeepBut.trans Z12x1 (KeepBut.of_grown hg g) (Kd.R_base2 aq.out));have aQ := mkA (ho);clear ar;clear ax;clear a7;clear HB;clear HK;clear aq;have ar := ag;have ax := ai;have a7 := ak;have HB := al;have HK := a1;have df := aQ;clear ag ai ak al a1 aQ;clear ho hb hg hat))
   go_ret
   exact ⟨_,Z12x9,by (with_reducible repeat (first | apply Kd.R_alloc | apply Kd.R_drewN | apply Kd.R_drew));exact df.out,Z12x0,Z12x2,Z12x1⟩
  ·rw [if_neg c7] at H
   exact absurd H (by simp)
 ·replace c4 := Bool.eq_false_iff.mpr c4
  subst c4
  rw [if_neg (show ¬ (false = true) by decide)] at H
  simp only [Option.some.injEq,Prod.mk.injEq] at H
  obtain ⟨rfl,rfl,rfl⟩ := H
  go_enter Try.func100,Try.ntmps100
  go_wp2_with (first | ((with_reducible refine gate_callee (f := 113) rfl ?_);refine goesL_ (some 5) rfl rfl Try.func113 (by kernel_rfl) rfl #[.pointer (some ⟨g,0,none⟩)] rfl Z12x4 ?_;(with_reducible refine (spec_l5Right.calls k g ab aC aD aT b5 b6 w0 _ ?ad ?ae A2.out).mono ?_);(case ad => exact Z12x0);(case ae => exact Z12x2);rintro e ft ⟨de,rfl,br,hi,hb,hk⟩;refine ⟨_,rfl,?_⟩;have ag := mkA (Kd.R_lower br (keep_size (w := w) (g := g) (row := none) Z12x1));have ai := mkA (KeepBut.trans Z12x1 hk (.inl rfl));have ak := mkA (hb);have al := mkA (hi);clear HK;clear HB;clear ar;have aq := ag;have HK := ai;have HB := ak;have ar := al;clear ag ai ak al;(try clear hb);(try clear aZ);(try clear hk);(try clear hi);(try clear br)) | ((with_reducible refine gate_callee (f := 87) rfl ?_);refine goesL_ (some 7) rfl rfl Try.func87 (by kernel_rfl) rfl #[.pointer (some ⟨g,0,none⟩),vi 8] rfl Z12x4 ?_;(with_reducible refine (spec_l1Once.calls g ab b5 b6 8 false b7 b8 w0 _ ?ad ?ae A3.out).mono ?_);(case ad => exact Z12x0);(case ae => exact Z12x2);rintro e eW ⟨rfl,hi,hb,hk⟩;refine ⟨_,rfl,?_⟩;have ag := mkA (Kd.R_mono (Kd.R_keep (IsS95.apart (show IsS95 w0 _ g ab b5 b6 from Z12x0) Z12x7 (by decide)) hk (fun _ h => h.2)) (fun _ h => h.1));have ai := mkA (KeepBut.trans Z12x1 hk (.inl rfl));have ak := mkA (hb);have al := mkA (hi);clear aq;clear HK;clear HB;clear ar;have aq := ag;have HK := ai;have HB := ak;have ar := al;clear ag ai ak al;(try clear hb);(try clear aZ);(try clear hk);(try clear hi)))
  go_ret
  exact ⟨_,Z12x9,Z12x7,Z12x0,Z12x2,Z12x1⟩


def spec_l5Copy.f (l0 : List (S70)) : Option ((List (S70))) := (some (([] : List (S70)) : List (S70))).bind fun bm => (if bm.length + l0.length < 8796093022208 then (some (bm ++ l0)) else (none))
theorem spec_l5Copy.calls (A0 : Option Addr) (c0 : Nat) (l0 : List (S70)) (r : List (S70)) (w : World) (ch : Kd.C k70 w A0 l0.length l0) (cj : l0.length ≤ c0) (h : spec_l5Copy.f l0 = some r) :
  Calls Try.prog 101 #[.slice A0 l0.length c0] w fun e w' => ∃ bI : Value,e = .returned (bI) ∧ Kd.R k70 70 w' w.heap.size (fun _ => True) bI r ∧ Below w.heap.size w w' := by
 have cC := mkA ch
 have dq := mkA cj
 clear ch cj
 have HB := mkA (Below.refl w.heap.size w)
 have H := h
 unfold spec_l5Copy.f at H
 clear h
 obtain ⟨bm,bn⟩ : ∃ y_ : List (S70),y_ = (([] : List (S70))) := ⟨_,rfl⟩
 replace H : (if bm.length + l0.length < 8796093022208 then (some (bm ++ l0)) else (none)) = some r := by first | (rw [bn];with_reducible exact H) | (have a8 := (Option.bind_some _ _).symm.trans H;rw [bn];with_reducible exact a8) | (have a8 := (Option.bind_some _ _).symm.trans H;with_reducible exact a8) | with_reducible exact H | (rw [bn];exact H) | exact H
 have ck := mkA bn
 clear bn
 by_cases c2 : bm.length + l0.length < 8796093022208
 ·rw [if_pos c2] at H
  have cD := mkA c2
  clear c2
  obtain ⟨en,bo⟩ : ∃ y_ : List (S70),y_ = (bm ++ l0) := ⟨_,rfl⟩
  replace H : (some en) = some r := by first | (rw [bo];with_reducible exact H) | (have a8 := (Option.bind_some _ _).symm.trans H;rw [bo];with_reducible exact a8) | (have a8 := (Option.bind_some _ _).symm.trans H;with_reducible exact a8) | with_reducible exact H | (rw [bo];exact H) | exact H
  have dg := mkA bo
  clear bo
  obtain rfl := Option.some.inj H
  simp only [Option.some.injEq,Prod.mk.injEq] at H
  obtain ⟨rfl⟩ := H
  go_enter Try.func101,Try.ntmps101
  go_wp2_with (first | ((with_reducible refine gate_dst (N := 3) rfl ?_);refine Kd.R_lit k70 _ 70 ?hg (N := 3) ?hd (xs := ([] : List (S70))) (inner := []) (ok := fun _ => True) (okp := fun _ => True) ?hr ?hp (fun _ hk => hk) trivial (Below.refl _ _) (Nat.le_refl _) (by simp) ?_;(case hd => rfl);(case hg => rfl);(case hr => first | (go_simp;done) | (go_simp;rfl));(case hp => exact (Reps.none _ _));intro eo w3 bJ hb hg_ hnew_;clear hg_ hnew_;(first | rw [← ck.out] at bJ | (simp only [Int.reduceToNat] at bJ;rw [← ck.out] at bJ));have ag := mkA (Kd.R_lower bJ (below_size Z12x3));have ai := mkA (below_step Z12x3 hb);clear HB;have cm := ag;have HB := ai;clear ag ai;clear hb bJ) | ((with_reducible refine gate_builtin (b := .append) (xs := #[.tmp 3,.tmp 4]) rfl ?_);at_builtin;refine Kd.R_append_rows k70 (w0 := w) w.heap.size rfl (.tmp 3) (.tmp 4) 32 70 (.agg #[(vi 0),(vi 0)]) 16 rfl Try.underlying32 info70 rfl (by decide) (by omega) eo bm l0 _ _ _ (fun _ => True) (fun _ => False) rfl rfl ?aO ?aR (fun _ _ h => h) (fun _ h => h.elim) ?aF ?aB ?aS ?aL ?_;(case aR => repeat (first | exact (Kd.C_below cC.out HB.out) | (with_reducible refine Kd.C_alloc ?_ _) | (with_reducible refine Kd.C_drewN ?_ _) | (with_reducible refine Kd.C_drew ?_)));(case aB => exact Z12x3);(case aF => exact (fun _ _ => trivial));(case aO => exact (by (with_reducible repeat (first | apply Kd.R_alloc | apply Kd.R_drewN | apply Kd.R_drew));exact cm.out));(case aS => exact (below_size Z12x3));(case aL => have := cD.out;omega);intro fa w5 ho hb hg hat;rw [← dg.out] at ho;have ag := mkA (hb);have ai := mkA (ho);clear HB;clear cm;have HB := ag;have dh := ai;clear ag ai;clear ho hb hg hat))
  go_ret
  exact ⟨_,Z12x9,by (with_reducible repeat (first | apply Kd.R_alloc | apply Kd.R_drewN | apply Kd.R_drew));exact dh.out,Z12x3⟩
 ·rw [if_neg c2] at H
  exact absurd H (by simp)




mutual
def impl_SetApart.j0 : Nat → List (S70) → List (S70) → Bool → Option (Bool)
 | 0,_,_,_ => none
 | k + 1,x0,x1,fb => if fb = true then (some false) else (impl_SetApart.l0 k x1 x0 (x0.length : Int) 0)
def impl_SetApart.l0 : Nat → List (S70) → List (S70) → Int → Int → Option (Bool)
 | 0,_,_,_,_ => none
 | k + 1,x1,cn,cH,bR => if bR < cH then (if 0 ≤ bR then (if bR < (cn.length : Int) then (impl_SetApart.l1 k x1 cn cH bR x1 (x1.length : Int) 0 ((rd_T70 cn bR).f0) ((rd_T70 cn bR).f1)) else (none)) else (none)) else (some true)
def impl_SetApart.l1 : Nat → List (S70) → List (S70) → Int → Int → List (S70) → Int → Int → Int → Int → Option (Bool)
 | 0,_,_,_,_,_,_,_,_,_ => none
 | k + 1,x1,cn,cH,bR,di,ep,cE,aU,aV => if cE < ep then (if 0 ≤ cE then (if cE < (di.length : Int) then (if aU ≤ ((rd_T70 di cE).f1) then (if ((rd_T70 di cE).f0) ≤ aV then (some false) else (impl_SetApart.l1 k x1 cn cH bR di ep (wrap64 (cE + 1)) aU aV)) else (impl_SetApart.l1 k x1 cn cH bR di ep (wrap64 (cE + 1)) aU aV)) else (none)) else (none)) else (impl_SetApart.l0 k x1 cn cH (wrap64 (bR + 1)))
end
def impl_SetApart.f (k : Nat) (l0 : List (S70)) (l1 : List (S70)) : Option (Bool) := (impl_SetOk.f k l0).bind fun cF => (if cF = true then ((impl_SetOk.f k l1).bind fun bD => (impl_SetApart.j0 k l0 l1 (!bD))) else (impl_SetApart.j0 k l0 l1 true))
theorem impl_SetApart.calls (k : Nat) (A0 : Option Addr) (c0 : Nat) (l0 : List (S70)) (A1 : Option Addr) (c1 : Nat) (l1 : List (S70)) (r : Bool) (w : World) (ch : Kd.C k70 w A0 l0.length l0) (cj : l0.length ≤ c0) (er : Kd.C k70 w A1 l1.length l1) (dr : l1.length ≤ c1) (h : impl_SetApart.f k l0 l1 = some r) :
  Calls Try.prog 58 #[.slice A0 l0.length c0,.slice A1 l1.length c1] w fun e w' => e = .returned (.bool r) ∧ Below w.heap.size w w' := by
 have cO := Try.underlying70
 have cC := mkA ch
 have dq := mkA cj
 clear ch cj
 have dt := mkA er
 have fc := mkA dr
 clear er dr
 have HB := mkA (Below.refl w.heap.size w)
 have H := h
 unfold impl_SetApart.f at H
 clear h
 have et := mkA H
 clear H
 go_enter Try.func58,Try.ntmps58
 go_upto_region 1 with (fail)
 go_cut [16] (fun fe wc => ∃ (kq : Nat) (bw : Bool),fe = .bool bw ∧ Aside0 (impl_SetApart.j0 kq l0 l1 bw = some r) ∧ Aside0 (kq ≤ k) ∧ Aside0 (Below w.heap.size w wc))
 case first =>
  have H := et.out
  clear et
  replace H := Option.bind_eq_some_iff.mp H
  obtain ⟨cF,eC,H⟩ := H
  try dsimp only at H
  have A4 := mkA eC
  clear eC
  by_cases c5 : cF = true
  ·subst c5
   rw [if_pos rfl] at H
   replace H := Option.bind_eq_some_iff.mp H
   obtain ⟨bD,dc,H⟩ := H
   try dsimp only at H
   have A6 := mkA dc
   clear dc
   have H' := mkA H
   clear H
   go_wp2_with (first | ((with_reducible refine gate_callee (f := 43) rfl ?_);refine goesL_ (some 10) rfl rfl Try.func43 (by kernel_rfl) rfl #[.slice A0 l0.length c0] rfl Z12x4 ?_;(with_reducible refine (impl_SetOk.calls k _ _ l0 true _ ?ad ?ae A4.out).mono ?_);(case ad => repeat (first | exact (Kd.C_below cC.out HB.out) | (with_reducible refine Kd.C_alloc ?_ _) | (with_reducible refine Kd.C_drewN ?_ _) | (with_reducible refine Kd.C_drew ?_)));(case ae => exact dq.out);rintro e w7 ⟨rfl,hb⟩;refine ⟨_,rfl,?_⟩;have ag := mkA (below_step Z12x3 hb);clear HB;have HB := ag;clear ag;(try clear hb);(try clear aZ);(try clear hk);(try clear hi)) | (go_at_call 43;(with_reducible refine (impl_SetOk.calls k _ _ l1 bD _ ?ad ?ae A6.out).mono ?_);(case ad => repeat (first | exact (Kd.C_below dt.out HB.out) | (with_reducible refine Kd.C_alloc ?_ _) | (with_reducible refine Kd.C_drewN ?_ _) | (with_reducible refine Kd.C_drew ?_)));(case ae => exact fc.out);rintro e w8 ⟨rfl,hb⟩;have ag := mkA (below_step Z12x3 hb);clear HB;have HB := ag;clear ag;(try clear hb);(try clear aZ);(try clear hk);(try clear hi)))
   (first | go_meet | (refine Met.intro ?_;go_step;(repeat apply Exists.intro);refine ⟨?rel,?eqs⟩;case eqs => ((try rw [show (!true) = true from by assumption]);(try rw [show (!true) = false from by assumption]);(try rw [show (!bD) = true from by assumption]);(try rw [show (!bD) = false from by assumption]);(try rfl))))
   case rel => exact ⟨_,(!bD),Z12x13,H',⟨by first | omega | exact Nat.le_refl _⟩,⟨Z12x3⟩⟩
  ·replace c5 := Bool.eq_false_iff.mpr c5
   subst c5
   rw [if_neg (show ¬ (false = true) by decide)] at H
   have H' := mkA H
   clear H
   go_wp2_with (first | ((with_reducible refine gate_callee (f := 43) rfl ?_);refine goesL_ (some 10) rfl rfl Try.func43 (by kernel_rfl) rfl #[.slice A0 l0.length c0] rfl Z12x4 ?_;(with_reducible refine (impl_SetOk.calls k _ _ l0 false _ ?ad ?ae A4.out).mono ?_);(case ad => repeat (first | exact (Kd.C_below cC.out HB.out) | (with_reducible refine Kd.C_alloc ?_ _) | (with_reducible refine Kd.C_drewN ?_ _) | (with_reducible refine Kd.C_drew ?_)));(case ae => exact dq.out);rintro e w9 ⟨rfl,hb⟩;refine ⟨_,rfl,?_⟩;have ag := mkA (below_step Z12x3 hb);clear HB;have HB := ag;clear ag;(try clear hb);(try clear aZ);(try clear hk);(try clear hi)))
   (first | go_meet | (refine Met.intro ?_;go_step;(repeat apply Exists.intro);refine ⟨?rel,?eqs⟩;case eqs => ((try rw [show (!false) = true from by assumption]);(try rw [show (!false) = false from by assumption]);(try rfl))))
   case rel => exact ⟨_,(true),Z12x13,H',⟨by first | omega | exact Nat.le_refl _⟩,⟨Z12x3⟩⟩
 case rest =>
  clear et
  try clear c1
  try clear p2
  try clear c4
  try clear c5
  obtain ⟨kq,bw,rfl,HA,cI,HB⟩ := hcut
  cases kq with
  | zero => exact absurd HA.out (by simp [impl_SetApart.j0])
  | succ eD =>
   have H := HA.out
   clear HA
   simp only [impl_SetApart.j0] at H
   by_cases c10 : bw = true
   ·subst c10
    rw [if_pos rfl] at H;obtain rfl := Option.some.inj H;simp only [Option.some.injEq,Prod.mk.injEq] at H;obtain ⟨rfl⟩ := H
    go_wp2
    go_ret
    exact ⟨Z12x9,Z12x3⟩
   ·replace c10 := Bool.eq_false_iff.mpr c10
    subst c10;rw [if_neg (show ¬ (false = true) by decide)] at H;have H' := mkA H;clear H
    go_wp2
    go_loopg [19] eD (fun kq ff w' => ∃ (aa : Int),ff = vi aa ∧ Aside0 (impl_SetApart.l0 kq l1 l0 (l0.length : Int) aa = some r) ∧ Aside0 (kq ≤ eD) ∧ Aside0 (Below w.heap.size w w'))
    case atStart => exact ⟨(0),Z12x13,H',⟨Nat.le_refl _⟩,⟨Z12x3⟩⟩
    case round =>
     clear H'
     try clear c1
     try clear p2
     try clear c4
     try clear c5
     try clear c10
     try clear p2
     obtain ⟨aa,rfl,HA,cJ,HB⟩ := hrel
     cases gk with
     | zero => exact absurd HA.out (by simp [impl_SetApart.l0])
     | succ k2 =>
      have H := HA.out;clear HA;simp only [impl_SetApart.l0] at H
      by_cases cG : aa < (l0.length : Int)
      ·rw [if_pos cG] at H
       have c11b0 : decide (aa < (l0.length : Int)) = true := decide_eq_true cG;clear cG
       by_cases dj : 0 ≤ aa
       ·rw [if_pos dj] at H
        have c12b0 : decide (0 ≤ aa) = true := decide_eq_true dj;clear dj
        by_cases dk : aa < (l0.length : Int)
        ·rw [if_pos dk] at H
         have c13b0 : decide (aa < (l0.length : Int)) = true := decide_eq_true dk;clear dk;have H' := mkA H;clear H;have bU : 0 ≤ (aa : Int) := of_decide_eq_true Z12x14;have bV : aa < (l0.length : Int) := of_decide_eq_true Z12x14;obtain ⟨eE,eu,aW,aX⟩ := at_T70 cC.out aa bU bV
         cases eu
         replace aW := czB HB.out aW;replace aX := czB HB.out aX;replace bU := eq_true bU;replace bV := eq_true bV
         go_wp2_with (first | ((with_reducible refine gate_dst (N := 6) rfl ?_);refine box_event ?hg (N := 6) ?hd (cs := #[vi 0,vi 0]) (t := 70) ?hr ?_;(case hd => rfl);(case hg => rfl);(case hr => first | (go_simp;done) | (go_simp;rfl));intro aj hg dp hbox hb;have ag := mkA (below_step Z12x3 hb);have ai := mkA (hbox);have ak := mkA ((by rw [hg];exact (below_size Z12x3) : w.heap.size ≤ aj));have al := mkA ((by rw [hg];exact (below_size Z12x3) : w.heap.size ≤ aj));clear HB;have HB := ag;have af := ai;have eF := ak;have b_ := al;clear ag ai ak al;clear hb hbox hg;have bW : dp.cell? ⟨aj,0,none⟩ = some (vi 0) := (blk_cell af.out 0).trans rfl;have bX : dp.cell? ⟨aj,1,none⟩ = some (vi 0) := (blk_cell af.out 1).trans rfl;have bY := blk_frozen af.out 0;have bZ := blk_frozen af.out 1))
         go_loopg [25] k2 (fun kq v25 w' => ∃ (ah : Int),v25 = vi ah ∧ Aside0 (impl_SetApart.l1 kq l1 l0 (l0.length : Int) aa l1 (l1.length : Int) ah ((rd_T70 l0 aa).f0) ((rd_T70 l0 aa).f1) = some r) ∧ Aside0 (kq ≤ k2) ∧ Aside0 (w'.heap[aj]? = some (.cells #[vi ((rd_T70 l0 aa).f0),vi ((rd_T70 l0 aa).f1)] 70 (0,0))) ∧ Aside0 (Below w.heap.size w w'))
         case atStart => exact ⟨(0),Z12x13,H',⟨Nat.le_refl _⟩,⟨by (with_reducible repeat (first | refine blk_drewN ?_ _ | refine blk_drew ?_ | refine blk_alloc ?_ _));refine blk_put (cs := #[vi ((rd_T70 l0 aa).f0),vi 0]) ?_ 1 _ rfl;(with_reducible repeat (first | refine blk_drewN ?_ _ | refine blk_drew ?_ | refine blk_alloc ?_ _));refine blk_put (cs := #[vi 0,vi 0]) ?_ 0 _ rfl;(with_reducible repeat (first | refine blk_drewN ?_ _ | refine blk_drew ?_ | refine blk_alloc ?_ _));exact af.out⟩,⟨Z12x5⟩⟩
         case round =>
          clear H'
          try clear c1
          try clear p2
          try clear p3
          try clear q3
          try clear fu
          try clear c4
          try clear c5
          try clear c10
          try clear cG
          try clear c11b0
          try clear dj
          try clear c12b0
          try clear dk
          try clear c13b0
          try clear bW bX
          try clear bY bZ
          try clear aW
          try clear aX
          try clear p2
          try clear bU
          try clear bV
          (try clear af)
          obtain ⟨ah,rfl,HA,cK,af,HB⟩ := hrel
          cases gk with
          | zero => exact absurd HA.out (by simp [impl_SetApart.l1])
          | succ k3 =>
           have H := HA.out;clear HA;simp only [impl_SetApart.l1] at H
           by_cases cL : ah < (l1.length : Int)
           ·rw [if_pos cL] at H
            have c16b0 : decide (ah < (l1.length : Int)) = true := decide_eq_true cL;clear cL
            by_cases du : 0 ≤ ah
            ·rw [if_pos du] at H
             have c17b0 : decide (0 ≤ ah) = true := decide_eq_true du;clear du
             by_cases dv : ah < (l1.length : Int)
             ·rw [if_pos dv] at H
              have c18b0 : decide (ah < (l1.length : Int)) = true := decide_eq_true dv;clear dv
              by_cases cM : ((rd_T70 l0 aa).f0) ≤ ((rd_T70 l1 ah).f1)
              ·rw [if_pos cM] at H
               have c19b0 : decide (((rd_T70 l0 aa).f0) ≤ ((rd_T70 l1 ah).f1)) = true := decide_eq_true cM;clear cM
               by_cases cN : ((rd_T70 l1 ah).f0) ≤ ((rd_T70 l0 aa).f1)
               ·rw [if_pos cN] at H
                have c20b0 : decide (((rd_T70 l1 ah).f0) ≤ ((rd_T70 l0 aa).f1)) = true := decide_eq_true cN;clear cN;obtain rfl := Option.some.inj H;simp only [Option.some.injEq,Prod.mk.injEq] at H;obtain ⟨rfl⟩ := H;have aK : 0 ≤ (ah : Int) := of_decide_eq_true Z12x14;have aM : ah < (l1.length : Int) := of_decide_eq_true Z12x14;obtain ⟨cq,bQ,au,av⟩ := at_T70 dt.out ah aK aM
                cases bQ
                replace au := czB HB.out au;replace av := czB HB.out av;replace aK := eq_true aK;replace aM := eq_true aM
                go_wp2_with (first | ((with_reducible refine gate_dst (N := 8) rfl ?_);refine box_event ?hg (N := 8) ?hd (cs := #[vi 0,vi 0]) (t := 70) ?hr ?_;(case hd => rfl);(case hg => rfl);(case hr => first | (go_simp;done) | (go_simp;rfl));intro an hg cZ hbox hb;have ag := mkA (blk_below (g := aj) (o := .cells #[vi ((rd_T70 l0 aa).f0),vi ((rd_T70 l0 aa).f1)] 70 (0,0)) Z12x6 hb);have ai := mkA (below_step Z12x5 hb);have ak := mkA (hbox);have al := mkA ((by rw [hg];exact (below_size Z12x5) : w.heap.size ≤ an));have a1 := mkA ((by rw [hg];exact (below_size Z12x5) : w.heap.size ≤ an));have aQ := mkA ((Z12x15 : aj ≠ an));have cr := mkA ((Z12x16 : an ≠ aj));clear af;clear HB;have af := ag;have HB := ai;have aw := ak;have ct := al;have bE := a1;have ao := aQ;have az := cr;clear ag ai ak al a1 aQ cr;clear hb hbox hg;have eG := az.out;have eH := ao.out;have dw : cZ.cell? ⟨an,0,none⟩ = some (vi 0) := (blk_cell aw.out 0).trans rfl;have dx : cZ.cell? ⟨an,1,none⟩ = some (vi 0) := (blk_cell aw.out 1).trans rfl;have dy := blk_frozen aw.out 0;have dz := blk_frozen aw.out 1;have dA : cZ.cell? ⟨aj,0,none⟩ = some (vi ((rd_T70 l0 aa).f0)) := (blk_cell af.out 0).trans rfl;have dB : cZ.cell? ⟨aj,1,none⟩ = some (vi ((rd_T70 l0 aa).f1)) := (blk_cell af.out 1).trans rfl;have dC := blk_frozen af.out 0;have dD := blk_frozen af.out 1))
                go_ret
                exact ⟨Z12x9,Z12x12⟩
               ·rw [if_neg cN] at H
                have c20b0 : decide (((rd_T70 l1 ah).f0) ≤ ((rd_T70 l0 aa).f1)) = false := decide_eq_false cN;clear cN;have H' := mkA H;clear H;have aK : 0 ≤ (ah : Int) := of_decide_eq_true Z12x14;have aM : ah < (l1.length : Int) := of_decide_eq_true Z12x14;obtain ⟨cq,bQ,au,av⟩ := at_T70 dt.out ah aK aM
                cases bQ
                replace au := czB HB.out au;replace av := czB HB.out av;replace aK := eq_true aK;replace aM := eq_true aM
                go_wp2_with (first | ((with_reducible refine gate_dst (N := 8) rfl ?_);refine box_event ?hg (N := 8) ?hd (cs := #[vi 0,vi 0]) (t := 70) ?hr ?_;(case hd => rfl);(case hg => rfl);(case hr => first | (go_simp;done) | (go_simp;rfl));intro an hg dE hbox hb;have ag := mkA (blk_below (g := aj) (o := .cells #[vi ((rd_T70 l0 aa).f0),vi ((rd_T70 l0 aa).f1)] 70 (0,0)) Z12x6 hb);have ai := mkA (below_step Z12x5 hb);have ak := mkA (hbox);have al := mkA ((by rw [hg];exact (below_size Z12x5) : w.heap.size ≤ an));have a1 := mkA ((by rw [hg];exact (below_size Z12x5) : w.heap.size ≤ an));have aQ := mkA ((Z12x15 : aj ≠ an));have cr := mkA ((Z12x16 : an ≠ aj));clear af;clear HB;have af := ag;have HB := ai;have aw := ak;have ct := al;have bE := a1;have ao := aQ;have az := cr;clear ag ai ak al a1 aQ cr;clear hb hbox hg;have eI := az.out;have eJ := ao.out;have dF : dE.cell? ⟨an,0,none⟩ = some (vi 0) := (blk_cell aw.out 0).trans rfl;have dG : dE.cell? ⟨an,1,none⟩ = some (vi 0) := (blk_cell aw.out 1).trans rfl;have dH := blk_frozen aw.out 0;have dI := blk_frozen aw.out 1;have dJ : dE.cell? ⟨aj,0,none⟩ = some (vi ((rd_T70 l0 aa).f0)) := (blk_cell af.out 0).trans rfl;have dK : dE.cell? ⟨aj,1,none⟩ = some (vi ((rd_T70 l0 aa).f1)) := (blk_cell af.out 1).trans rfl;have dL := blk_frozen af.out 0;have dM := blk_frozen af.out 1))
                go_roundg k3
                case measure => have := cI.out;have := cJ.out;have := cK.out;omega
                case rel => exact ⟨(wrap64 (ah + 1)),Z12x13,H',⟨by have := cI.out;have := cJ.out;have := cK.out;omega⟩,⟨Z12x11⟩,⟨Z12x12⟩⟩
              ·rw [if_neg cM] at H
               have c19b0 : decide (((rd_T70 l0 aa).f0) ≤ ((rd_T70 l1 ah).f1)) = false := decide_eq_false cM;clear cM;have H' := mkA H;clear H;have aK : 0 ≤ (ah : Int) := of_decide_eq_true Z12x14;have aM : ah < (l1.length : Int) := of_decide_eq_true Z12x14;obtain ⟨cq,bQ,au,av⟩ := at_T70 dt.out ah aK aM
               cases bQ
               replace au := czB HB.out au;replace av := czB HB.out av;replace aK := eq_true aK;replace aM := eq_true aM
               go_wp2_with (first | ((with_reducible refine gate_dst (N := 8) rfl ?_);refine box_event ?hg (N := 8) ?hd (cs := #[vi 0,vi 0]) (t := 70) ?hr ?_;(case hd => rfl);(case hg => rfl);(case hr => first | (go_simp;done) | (go_simp;rfl));intro an hg dN hbox hb;have ag := mkA (blk_below (g := aj) (o := .cells #[vi ((rd_T70 l0 aa).f0),vi ((rd_T70 l0 aa).f1)] 70 (0,0)) Z12x6 hb);have ai := mkA (below_step Z12x5 hb);have ak := mkA (hbox);have al := mkA ((by rw [hg];exact (below_size Z12x5) : w.heap.size ≤ an));have a1 := mkA ((by rw [hg];exact (below_size Z12x5) : w.heap.size ≤ an));have aQ := mkA ((Z12x15 : aj ≠ an));have cr := mkA ((Z12x16 : an ≠ aj));clear af;clear HB;have af := ag;have HB := ai;have aw := ak;have ct := al;have bE := a1;have ao := aQ;have az := cr;clear ag ai ak al a1 aQ cr;clear hb hbox hg;have eK := az.out;have eL := ao.out;have dO : dN.cell? ⟨an,0,none⟩ = some (vi 0) := (blk_cell aw.out 0).trans rfl;have dP : dN.cell? ⟨an,1,none⟩ = some (vi 0) := (blk_cell aw.out 1).trans rfl;have dQ := blk_frozen aw.out 0;have dR := blk_frozen aw.out 1;have dS : dN.cell? ⟨aj,0,none⟩ = some (vi ((rd_T70 l0 aa).f0)) := (blk_cell af.out 0).trans rfl;have dT : dN.cell? ⟨aj,1,none⟩ = some (vi ((rd_T70 l0 aa).f1)) := (blk_cell af.out 1).trans rfl;have dU := blk_frozen af.out 0;have dV := blk_frozen af.out 1))
               go_roundg k3
               case measure => have := cI.out;have := cJ.out;have := cK.out;omega
               case rel => exact ⟨(wrap64 (ah + 1)),Z12x13,H',⟨by have := cI.out;have := cJ.out;have := cK.out;omega⟩,⟨Z12x11⟩,⟨Z12x12⟩⟩
             ·rw [if_neg dv] at H
              exact absurd H (by simp)
            ·rw [if_neg du] at H
             exact absurd H (by simp)
           ·rw [if_neg cL] at H
            have c16b0 : decide (ah < (l1.length : Int)) = false := decide_eq_false cL;clear cL;have H' := mkA H;clear H
            go_wp2
            go_roundg k3
            case measure => have := cI.out;have := cJ.out;have := cK.out;omega
            case rel => exact ⟨(wrap64 (aa + 1)),Z12x13,H',⟨by have := cI.out;have := cJ.out;have := cK.out;omega⟩,⟨Z12x5⟩⟩
        ·rw [if_neg dk] at H
         exact absurd H (by simp)
       ·rw [if_neg dj] at H
        exact absurd H (by simp)
      ·rw [if_neg cG] at H
       have c11b0 : decide (aa < (l0.length : Int)) = false := decide_eq_false cG;clear cG;obtain rfl := Option.some.inj H;simp only [Option.some.injEq,Prod.mk.injEq] at H;obtain ⟨rfl⟩ := H
       go_wp2
       go_ret
       exact ⟨Z12x9,Z12x3⟩

def impl_copySet.f (l0 : List (S70)) : Option ((List (S70))) := if ([] : List (S70)).length + l0.length < 8796093022208 then (some (([] : List (S70)) ++ l0)) else (none)
theorem impl_copySet.calls (A0 : Option Addr) (c0 : Nat) (l0 : List (S70)) (r : List (S70)) (w : World) (ch : Kd.C k70 w A0 l0.length l0) (cj : l0.length ≤ c0) (h : impl_copySet.f l0 = some r) :
  Calls Try.prog 90 #[.slice A0 l0.length c0] w fun e w' => ∃ bI : Value,e = .returned (bI) ∧ Kd.R k70 70 w' w.heap.size (fun _ => True) bI r ∧ Below w.heap.size w w' := by
 have cC := mkA ch
 have dq := mkA cj
 clear ch cj
 have HB := mkA (Below.refl w.heap.size w)
 have H := h
 unfold impl_copySet.f at H
 clear h
 by_cases c2 : ([] : List (S70)).length + l0.length < 8796093022208
 ·rw [if_pos c2] at H
  have cD := mkA c2
  clear c2
  obtain ⟨ev,bp⟩ : ∃ y_ : List (S70),y_ = (([] : List (S70)) ++ l0) := ⟨_,rfl⟩
  replace H : (some ev) = some r := by first | (rw [bp];with_reducible exact H) | (have a8 := (Option.bind_some _ _).symm.trans H;rw [bp];with_reducible exact a8) | (have a8 := (Option.bind_some _ _).symm.trans H;with_reducible exact a8) | with_reducible exact H | (rw [bp];exact H) | exact H
  have dm := mkA bp
  clear bp
  obtain rfl := Option.some.inj H
  simp only [Option.some.injEq,Prod.mk.injEq] at H
  obtain ⟨rfl⟩ := H
  go_enter Try.func90,Try.ntmps90
  go_wp2_with (first | ((with_reducible refine gate_builtin (b := .append) (xs := #[.const (.slice none 0 0),.tmp 3]) rfl ?_);at_builtin;refine Kd.R_append_rows k70 (w0 := w) w.heap.size rfl (.const (.slice none 0 0)) (.tmp 3) 32 70 (.agg #[(vi 0),(vi 0)]) 16 rfl Try.underlying32 info70 rfl (by decide) (by omega) (.slice none 0 0) ([] : List (S70)) l0 _ _ _ (fun _ => True) (fun _ => False) rfl rfl ?aO ?aR (fun _ _ h => h) (fun _ h => h.elim) ?aF ?aB ?aS ?aL ?_;(case aR => repeat (first | exact cC.out | (with_reducible refine Kd.C_alloc ?_ _) | (with_reducible refine Kd.C_drewN ?_ _) | (with_reducible refine Kd.C_drew ?_)));(case aB => exact Z12x3);(case aF => exact (fun _ _ => trivial));(case aO => exact ((Kd.R_nil _ _ _ _ (fun _ => True))));(case aS => exact (below_size Z12x3));(case aL => have := cD.out;omega);intro fg w3 ho hb hg hat;rw [← dm.out] at ho;have ag := mkA (hb);have ai := mkA (ho);clear HB;have HB := ag;have dn := ai;clear ag ai;clear ho hb hg hat))
  go_ret
  exact ⟨_,Z12x9,by (with_reducible repeat (first | apply Kd.R_alloc | apply Kd.R_drewN | apply Kd.R_drew));exact dn.out,Z12x3⟩
 ·rw [if_neg c2] at H
  exact absurd H (by simp)



















instance : Inhabited S70 := ⟨z70⟩
def sortEnc (x : S70) : List Value := [vi x.f0,vi x.f1]
def sortCf (x y : S70) : Int := Go.Lib.compareInt x.f0 y.f0
theorem sortCf_lt (x y : S70) : Go.Proofs.ltOf sortCf x y = decide (x.f0 < y.f0) := by
 unfold Go.Proofs.ltOf sortCf Go.Lib.compareInt
 by_cases h1 : x.f0 < y.f0
 ·simp [h1]
 ·by_cases h2 : y.f0 < x.f0 <;> simp [h1,h2]
theorem sort_swo : Go.Sort.SWO (Go.Proofs.ltOf sortCf) where
 irrefl x := by rw [sortCf_lt];simp
 trans x y z h1 h2 := by rw [sortCf_lt] at *;simp at *;omega
 ntrans x y z h1 h2 := by rw [sortCf_lt] at *;simp at *;omega
def sortA (l : List S70) : Array S70 := Go.Sort.pdq (Go.Proofs.ltOf sortCf) l.toArray 0 l.toArray.size (Go.Lib.bitLen l.toArray.size) true true
theorem sortA_ok (l : List S70) : Go.Sort.PermIn 0 l.toArray.size l.toArray (sortA l) ∧ Go.Sort.SortedIn (Go.Proofs.ltOf sortCf) 0 l.toArray.size (sortA l) :=
 Go.Sort.pdq_sorts (Go.Proofs.ltOf sortCf) sort_swo l.toArray 0 l.toArray.size (Go.Lib.bitLen l.toArray.size) true true (Nat.zero_le _) (Nat.le_refl _) (Or.inl rfl)
theorem flat_get (d : Array S70) (j : Nat) (hj : j < d.size) : ((Go.Sort.flatK sortEnc 2 d).toList.drop (j * 2)).take 2 = sortEnc d[j]! := by
 have hs : (Go.Sort.flatK sortEnc 2 d).toList.length = d.size * 2 := by rw [Array.length_toList,Go.Sort.size_flatK]
 have g0 := Go.Sort.get_flatK sortEnc 2 d (j * 2) (by omega)
 have g1 := Go.Sort.get_flatK sortEnc 2 d (j * 2 + 1) (by omega)
 have e0 : j * 2 / 2 = j ∧ j * 2 % 2 = 0 ∧ (j * 2 + 1) / 2 = j ∧ (j * 2 + 1) % 2 = 1 := by omega
 rw [e0.1,e0.2.1] at g0
 rw [e0.2.2.1,e0.2.2.2] at g1
 rw [getElem!_pos (Go.Sort.flatK sortEnc 2 d) (j * 2) (by rw [Go.Sort.size_flatK];omega)] at g0
 rw [getElem!_pos (Go.Sort.flatK sortEnc 2 d) (j * 2 + 1) (by rw [Go.Sort.size_flatK];omega)] at g1
 rw [List.drop_eq_getElem_cons (by omega),List.drop_eq_getElem_cons (by omega)]
 simp only [List.take_succ_cons,List.take_zero,Array.getElem_toList]
 rw [g0,g1]
 rfl
theorem flat_at {l : List S70} {inner : List Value} (hl : inner.length = l.length * 2) (hr : ∀ j p,l[j]? = some p → (inner.drop (j * 2)).take 2 = sortEnc p) (t : Nat) (ht : t < l.length * 2) :
  inner[t]? = some (Go.Sort.flatK sortEnc 2 l.toArray)[t]! := by
 have hq : t / 2 < l.length := by omega
 have h := hr (t / 2) l[t / 2] (List.getElem?_eq_getElem hq)
 have h1 : ((inner.drop (t / 2 * 2)).take 2)[t % 2]? = inner[t]? := by
  rw [List.getElem?_take_of_lt (by omega),List.getElem?_drop]
  congr 1
  omega
 rw [← h1,h,Go.Sort.get_flatK sortEnc 2 l.toArray t (by simpa using ht)]
 have h2 : l.toArray[t / 2]! = l[t / 2] := by rw [getElem!_pos _ _ (by simpa using hq)];simp
 rw [h2]
 have : t % 2 = 0 ∨ t % 2 = 1 := by omega
 rcases this with e | e <;> rw [e] <;> rfl
theorem flat_put (d : Array S70) (c : Array Value) (hc : d.size * 2 ≤ c.size) : (Go.Sort.putCells id 0 (Go.Sort.flatK sortEnc 2 d) c).toList.take (d.size * 2) = (Go.Sort.flatK sortEnc 2 d).toList := by
 have hs : (Go.Sort.flatK sortEnc 2 d).size = d.size * 2 := Go.Sort.size_flatK _ _ _
 refine List.ext_getElem (by simp [Go.Sort.putCells,hs];omega) (fun t h1 h2 => ?_)
 have ht : t < d.size * 2 := by simpa [hs] using h2
 rw [List.getElem_take,Array.getElem_toList,Array.getElem_toList]
 unfold Go.Sort.putCells
 rw [Array.getElem_mapIdx,if_pos (by omega),Nat.sub_zero,getElem!_pos _ t (by rw [hs];exact ht)]
 rfl
theorem sorted_row {W : World} {base g cap m : Nat} {ok : Nat → Prop} {l : List S70} {d : Array S70} {os : Array Obj} (h : Kd.R k70 70 W base ok (.slice (some ⟨g,0,none⟩) l.length cap) l) (hl : 0 < l.length) (hd : d.size = l.length) :
  Go.Sort.HoldsK sortEnc 2 W g 0 l.toArray ∧ g < W.heap.size ∧ base ≤ g ∧ ok g ∧
  Kd.R k70 70 (Go.Proofs.sortWorldK sortEnc 2 W g 0 m d os) base ok (.slice (some ⟨g,0,none⟩) l.length cap) d.toList ∧ W.grownBy (Go.Proofs.sortWorldK sortEnc 2 W g 0 m d os) (some g) := by
 obtain ⟨h0,inner,⟨hn,ho⟩,er,fh⟩ := h
 have hok := h0 g rfl
 rcases ho with ⟨_,ho⟩ | ⟨g',cap',cur,hv,hb,hg,hle,hmx,hsz,htk⟩
 ·omega
 injection hv with ha fv dr
 injection ha with ha
 injection ha with ha
 subst ha dr
 have hlt : g < W.heap.size := blk_lt hg
 have ew : cur.size = cap * 2 := hsz
 have fi : inner.length = l.length * 2 := hn
 have ey : cur.toList.take (l.length * 2) = inner := htk
 have hin : ∀ j p,l[j]? = some p → (inner.drop (j * 2)).take 2 = sortEnc p := fun j p hj => k70_openM (fh j p hj)
 have hH : Go.Sort.HoldsK sortEnc 2 W g 0 l.toArray := by
  intro t ht
  have eM : t < l.length * 2 := by simpa using ht
  refine ⟨?_,blk_frozen hg _⟩
  have e1 := flat_at fi hin t eM
  rw [Nat.zero_add,blk_cell hg t]
  rw [← ey,List.getElem?_take_of_lt eM,Array.getElem?_toList] at e1
  exact e1
 have aZ : (Go.Proofs.sortWorldK sortEnc 2 W g 0 m d os).heap[g]? = some (.cells (Go.Sort.putCells id 0 (Go.Sort.flatK sortEnc 2 d) cur) 70 (0,0)) := by
  unfold Go.Proofs.sortWorldK Go.Sort.putRowK Go.Sort.putRow
  rw [Go.Sort.heap_grow_old _ _ (by simp [Go.Sort.mapBlock,Go.Sort.ahead];exact hlt)]
  simp only [Go.Sort.mapBlock,Go.Sort.ahead,Array.getElem?_modify,if_true]
  rw [hg]
  rfl
 refine ⟨hH,hlt,hb,hok,⟨h0,(Go.Sort.flatK sortEnc 2 d).toList,⟨?_,.inr ⟨g,cap,_,by rw [← hd,Array.length_toList],hb,aZ,by rw [Array.length_toList,hd];exact hle,hmx,?_,?_⟩⟩,?_,fun j p hj => ?_⟩,?_⟩
 ·rw [Array.length_toList,Go.Sort.size_flatK,Array.length_toList];rfl
 ·simp [Go.Sort.putCells];exact hsz
 ·have := flat_put d cur (by rw [hd,ew];omega)
  rw [Array.length_toList]
  exact this
 ·rw [Array.length_toList,Go.Sort.size_flatK,Array.length_toList];rfl
 ·obtain ⟨fj,fk⟩ := List.getElem?_eq_some_iff.1 hj
  have eN : j < d.size := by simpa using fj
  have e := flat_get d j eN
  rw [getElem!_pos d j eN] at e
  have e2 : d[j] = p := by rw [← fk,Array.getElem_toList]
  rw [e2] at e
  show (k70).M _ _ _ _ (((Go.Sort.flatK sortEnc 2 d).toList.drop (j * 2)).take 2)
  rw [e]
  exact k70_mkM _ _ _ _
 ·refine ⟨rfl,rfl,rfl,Go.Proofs.size_sortWorldK_c _ _ _ _ _ _ _ _,fun i hi hn => ?_⟩
  have hne : i ≠ g := fun e => hn (by rw [e])
  unfold Go.Proofs.sortWorldK Go.Sort.putRowK Go.Sort.putRow
  rw [Go.Sort.heap_grow_old _ _ (by simp [Go.Sort.mapBlock,Go.Sort.ahead];exact hi)]
  simp only [Go.Sort.mapBlock,Go.Sort.ahead,Array.getElem?_modify]
  rw [if_neg (fun e => hne e.symm)]
def slices_SortFunc_impl_Span.f (l0 : List S70) : Option (List S70) := if l0.length < 4611686018427387904 then some (sortA l0).toList else none
theorem slices_SortFunc_impl_Span.clo (x y : S70) (W : World) : Calls Try.prog 103 #[.agg #[vi x.f0,vi x.f1],.agg #[vi y.f0,vi y.f1]] W fun e w' => e = .returned (vi (sortCf x y)) ∧ ∃ q os',w' = Go.Sort.grow (W.drewN q) os' := by
 have hcon := fun W' => AnyG.cmp_Compare_int Try.cmpInt x.f0 y.f0 W'
 change ∀ W',Calls Try.prog 104 _ _ _ at hcon
 unfold sortCf
 generalize Go.Lib.compareInt x.f0 y.f0 = r at hcon ⊢
 go_enter Try.func103,Try.ntmps103
 go_wp2_with (go_at_call 104;refine (hcon _).mono ?_;rintro e w' ⟨rfl,rfl⟩)
 go_ret
 exact ⟨rfl,0,_,by rw [Go.Sort.alloc_eq_grow,Go.Sort.alloc_eq_grow,Go.Sort.grow_grow];rfl⟩
theorem slices_SortFunc_impl_Span.calls (ez : Nat → Prop) (bs : Value) (l0 : List S70) (r1 : List S70) (w0 w : World) (hB : Below w0.heap.size w0 w) (br : Kd.R k70 70 w w0.heap.size ez bs l0) (h : slices_SortFunc_impl_Span.f l0 = some r1) :
  Calls Try.prog 102 #[bs,.func (.func 103) #[] #[]] w fun e w' => e = .returned (.tuple #[]) ∧ Kd.R k70 70 w' w0.heap.size (fun k_ => (ez k_ ∨ w.heap.size ≤ k_)) bs r1 ∧ Below w0.heap.size w0 w' ∧ Kept w w' (fun k_ => ez k_) := by
 unfold slices_SortFunc_impl_Span.f at h
 by_cases hlen : l0.length < 4611686018427387904
 case neg => rw [if_neg hlen] at h;cases h
 rw [if_pos hlen] at h
 obtain rfl := Option.some.inj h
 clear h
 obtain ⟨A,cap,rfl⟩ := Kd.R_slice br
 by_cases hl : l0.length = 0
 ·have hnil : l0 = [] := List.eq_nil_of_length_eq_zero hl
  subst hnil
  have hcon := AnyF.slices_SortFunc_none (P := Try.prog) (ρ := Try.sortSpan_ren) Try.sortSpan A cap (.func (.func 103) #[] #[]) w
  change Calls Try.prog 102 _ _ _ at hcon
  refine hcon.mono ?_
  rintro e w' ⟨rfl,rfl⟩
  have he : (sortA []).toList = [] := by
   have h0 : (sortA []).size = 0 := (sortA_ok []).1.1
   exact List.eq_nil_of_length_eq_zero (by rw [Array.length_toList];exact h0)
  rw [he]
  exact ⟨rfl,Kd.R_mono br (fun k hk => .inl hk),hB,Kept.refl _ _⟩
 ·obtain ⟨g,cap',hv,_⟩ := Kd.R_form br (by omega)
  injection hv with hA _ hc
  subst hA hc
  have hs : (sortA l0).size = l0.length := by have := (sortA_ok l0).1.1;simpa using this
  obtain ⟨hH,hlt,hbg,hok,_,_⟩ := sorted_row (m := 0) (d := sortA l0) (os := #[]) br (by omega) hs
  have eg : ∀ args w,(callFunc 103 args).run Try.prog w = .ok (.enter 103 args) w := enters_of Try.func103 (by kernel_rfl) rfl
  have hcon := AnyQ.slices_SortFunc_eq (P := Try.prog) (ρ := Try.sortSpan_ren) Try.sortSpan 2 Try.isAgg70 Try.sizeOf70 sortEnc (fun _ => rfl) (fun x v hv => by simp [sortEnc] at hv;rcases hv with rfl | rfl <;> rfl) sortCf sort_swo 103 #[] g 0 cap l0.toArray w eg (fun _ _ _ _ x y => slices_SortFunc_impl_Span.clo x y _) hH hlt (by simpa using hlen)
  change Calls Try.prog 102 _ _ _ at hcon
  rw [show l0.toArray.size = l0.length from by simp] at hcon
  refine hcon.mono ?_
  rintro e w' ⟨rfl,n,os,rfl⟩
  have e : Go.Sort.pdq (Go.Proofs.ltOf sortCf) l0.toArray 0 l0.length (Go.Lib.bitLen l0.length) true true = sortA l0 := by unfold sortA;simp
  rw [e]
  obtain ⟨_,_,_,_,hR,hG⟩ := sorted_row (m := n) (d := sortA l0) (os := os) br (by omega) hs
  refine ⟨rfl,Kd.R_mono hR (fun k hk => .inl hk),?_,?_⟩
  ·exact ⟨hG.os.trans hB.os,hG.tape.trans hB.tape,hG.output.trans hB.output,Nat.le_trans hB.size hG.size,fun i hi => (hG.block i (Nat.lt_of_lt_of_le hi hB.size) (fun e => by injection e with e;omega)).trans (hB.block i hi)⟩
  ·exact ⟨hG.size,fun i hi hn => hG.block i hi (fun e => by injection e with e;subst e;exact hn hok)⟩

end Go.Proofs.Ytdciagkholijlaa.PFnEntries
