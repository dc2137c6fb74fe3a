-- Written by this session's changed copy of the kit's printer (wip/patch_print.py): not the kit's own print.
import Derived.Test.YtdciagkholijlaaPFnEntriesx0
import Derived.Test.YtdciagkholijlaaPFnEntriesx7
namespace Go.Proofs.Ytdciagkholijlaa.PFnEntries
open Go.RowKit Go.Proofs.YtdciagkholijlaaW.PrintWords Go.Proofs.YtdciagkholijlaaW.PrintLast Go.Proofs.YtdciagkholijlaaW.PrintMore
attribute [local go_sem] max2_int min2_int max_two min_two max_three min_three max_four min_four   -- for this text's walks alone
set_option linter.unusedVariables false
set_option linter.unusedSimpArgs false
set_option maxHeartbeats 8000000
set_option maxRecDepth 100000
theorem Z11x0 {p : Prop} (h : p := by repeat (first | (with_reducible first | exact HB.out | apply below_alloc | apply pw_below_drewN | apply below_drew1 | refine below_set ?_ b4.out) | exact HB.out)) : p := h
theorem Z11x1 {p : Prop} (h : p := by (with_reducible repeat (first | refine blk_drewN ?_ _ | refine blk_drew ?_ | refine blk_alloc ?_ _));exact ae.out) : p := h
theorem Z11x2 {p : Prop} (h : p := by first | (with_reducible assumption) | assumption) : p := h
theorem Z11x3 {p : Prop} (h : p := by first | rfl | (simp;done) | (simp [*];done)) : p := h
theorem Z11x4 {p : Prop} (h : p := by (with_reducible repeat (first | apply Kd.R_alloc | apply Kd.R_drewN | apply Kd.R_drew));exact HO_5.out) : p := h
theorem Z11x5 {p : Prop} (h : p := by repeat (first | (with_reducible first | exact HB.out | apply below_alloc | apply pw_below_drewN | apply below_drew1) | exact HB.out)) : p := h

def spec_l5Put.l0 : Nat → List (S70) → List (S70) → Bool → Int → Int → Int → Option ((List (S70)))
 | 0,_,_,_,_,_,_ => none
 | k + 1,x0,x5,x6,x7,aw,ax => if x7 < (x0.length : Int) then (if 0 ≤ x7 then (if (wrap64 (((rd_T70 x0 x7).f1) + 1)) < aw then (if x5.length < 8796093022208 then (spec_l5Put.l0 k x0 (x5 ++ [(⟨(rd_T70 x0 x7).f0,(rd_T70 x0 x7).f1⟩ : S70)]) x6 (wrap64 (x7 + 1)) aw ax) else (none)) else (if ((rd_T70 x0 x7).f0) > (wrap64 (ax + 1)) then (if x6 = true then (if x5.length < 8796093022208 then (spec_l5Put.l0 k x0 (x5 ++ [(⟨(rd_T70 x0 x7).f0,(rd_T70 x0 x7).f1⟩ : S70)]) x6 (wrap64 (x7 + 1)) aw ax) else (none)) else (if x5.length < 8796093022208 then ((some (x5 ++ [(⟨aw,ax⟩ : S70)] : List (S70))).bind fun aN => (if aN.length < 8796093022208 then (spec_l5Put.l0 k x0 (aN ++ [(⟨(rd_T70 x0 x7).f0,(rd_T70 x0 x7).f1⟩ : S70)]) true (wrap64 (x7 + 1)) aw ax) else (none))) else (none))) else ((spec_l1Min.f aw ((rd_T70 x0 x7).f0)).bind fun bg => ((spec_l1Max.f ax ((rd_T70 x0 x7).f1)).bind fun bj => (spec_l5Put.l0 k x0 x5 x6 (wrap64 (x7 + 1)) bg bj))))) else (none)) else (if x6 = true then (some x5) else (if x5.length < 8796093022208 then (some (x5 ++ [(⟨aw,ax⟩ : S70)])) else (none)))
def spec_l5Put.f (k : Nat) (l0 : List (S70)) (aK : Int) (aM : Int) : Option ((List (S70))) := spec_l5Put.l0 k l0 (([] : List (S70))) false 0 aK aM
def spec_l5Put.T6 : Bool × List (List Nat × List Nat) := (true,[([],[]),([0],[0]),([],[]),([],[]),([2,3],[2,3]),([4],[4]),([5],[5]),([1,6],[1,6]),([],[]),([8],[8]),([],[]),([],[]),([10,11],[10,11]),([12],[12]),([13],[13]),([9,14,7],[9,14]),([7,15],[7,15]),([16,15,0,1,2,3,4,5,6,7,8,9,10,11,12,13,14,15,16],[16])])
def spec_l5Put.B6 : List Nat := [0,1,0,0,12,28,60,127,0,256,0,0,3072,7168,15360,32767,65535,131071]
theorem spec_l5Put.tab6 : rtab .any (opsOf Try.f106 6) = spec_l5Put.T6 := by kernel_rfl
theorem spec_l5Put.bits6 : waitsOk spec_l5Put.T6.2 spec_l5Put.B6 = true := by kernel_rfl
def spec_l5Put.T7 : Bool × List (List Nat × List Nat) := (true,[([],[]),([],[]),([0,1],[0,1]),([2],[2]),([3],[3]),([4],[4]),([],[]),([6],[6]),([5,7],[5,7]),([8],[8])])
def spec_l5Put.B7 : List Nat := [0,0,3,7,15,31,0,64,255,511]
theorem spec_l5Put.tab7 : rtab .any (opsOf Try.f106 7) = spec_l5Put.T7 := by kernel_rfl
theorem spec_l5Put.bits7 : waitsOk spec_l5Put.T7.2 spec_l5Put.B7 = true := by kernel_rfl
def spec_l5Put.T9 : Bool × List (List Nat × List Nat) := (true,[([],[]),([],[]),([0,1],[0,1]),([2],[2]),([3],[3]),([],[]),([5],[5]),([6],[6]),([4,7],[4,7]),([8],[8])])
def spec_l5Put.B9 : List Nat := [0,0,3,7,15,0,32,96,255,511]
theorem spec_l5Put.tab9 : rtab .any (opsOf Try.f106 9) = spec_l5Put.T9 := by kernel_rfl
theorem spec_l5Put.bits9 : waitsOk spec_l5Put.T9.2 spec_l5Put.B9 = true := by kernel_rfl
theorem spec_l5Put.calls (k : Nat) (A0 : Option Addr) (c0 : Nat) (l0 : List (S70)) (aK : Int) (aM : Int) (r : List (S70)) (w : World) (cw : Kd.C k70 w A0 l0.length l0) (cx : l0.length ≤ c0) (h : spec_l5Put.f k l0 aK aM = some r) :
  Calls Try.prog 106 #[.slice A0 l0.length c0,.agg #[vi aK,vi aM]] w fun e w' => ∃ cy : Value,e = .returned (cy) ∧ Kd.R k70 70 w' w.heap.size (fun _ => True) cy r ∧ Below w.heap.size w w' := by
 have cF := Try.underlying70
 have bh := mkA cw
 have cT := mkA cx
 clear cw cx
 have HB := mkA (Below.refl w.heap.size w)
 have H : (spec_l5Put.l0 k l0 (([] : List (S70))) false 0 aK aM) = some r := h
 clear h
 obtain ⟨b5,aQ⟩ : ∃ y_ : List (S70),y_ = (([] : List (S70))) := ⟨_,rfl⟩
 replace H : (spec_l5Put.l0 k l0 b5 false 0 aK aM) = some r := by first | (rw [aQ];with_reducible exact H) | (have aH := (Option.bind_some _ _).symm.trans H;rw [aQ];with_reducible exact aH) | (have aH := (Option.bind_some _ _).symm.trans H;with_reducible exact aH) | with_reducible exact H | (rw [aQ];exact H) | exact H
 have bo := mkA aQ
 clear aQ
 have H' := mkA H
 clear H
 go_enter Try.func106,Try.ntmps106
 go_wp2_with (first | ((with_reducible refine gate_dst (N := 3) rfl ?_);refine box_event ?hg (N := 3) ?hd (cs := #[vi aK,vi aM]) (t := 70) ?hr ?_;(case hd => rfl);(case hg => rfl);(case hr => first | (go_simp;done) | (go_simp;rfl));intro af hg w3 hbox hb;have ao := mkA (below_step Z11x5 hb);have aq := mkA (hbox);have ar := mkA ((by rw [hg];exact (below_size Z11x5) : w.heap.size ≤ af));have cz := mkA ((by rw [hg];exact (below_size Z11x5) : w.heap.size ≤ af));clear HB;have HB := ao;have ae := aq;have cA := ar;have b4 := cz;clear ao aq ar cz;clear hb hbox hg) | ((with_reducible refine gate_dst (N := 8) rfl ?_);refine Kd.R_lit k70 _ 70 ?hg (N := 8) ?hd (xs := ([] : List (S70))) (inner := []) (ok := fun _ => True) (okp := fun _ => True) ?hr ?hp (fun _ hk => hk) trivial (Below.refl _ _) (Nat.le_refl _) (by simp) ?_;(case hd => rfl);(case hg => rfl);(case hr => first | (go_simp;done) | (go_simp;rfl));(case hp => exact (Reps.none _ _));intro cG w4 b6 hb hg_ hnew_;clear hg_ hnew_;(first | rw [← bo.out] at b6 | (simp only [Int.reduceToNat] at b6;rw [← bo.out] at b6));have ao := mkA (Kd.R_lower (Kd.R_newB b6 (g := af) (o := .cells #[vi aK,vi aM] 70 (0,0)) Z11x1) (below_size Z11x0));have aq := mkA (blk_below (g := af) (o := .cells #[vi aK,vi aM] 70 (0,0)) Z11x1 hb);have ar := mkA (below_step Z11x0 hb);clear ae;clear HB;have b7 := ao;have ae := aq;have HB := ar;clear ao aq ar;clear hb b6))
 go_loopg [5,6,7] k (fun kq v5 v6 v7 w' => ∃ (a7 : List (S70)) (aR : Bool) (ad : Int) (ab : Int) (aa : Int),v6 = .bool aR ∧ v7 = vi ad ∧ Aside0 (spec_l5Put.l0 kq l0 a7 aR ad ab aa = some r) ∧ Aside0 (kq ≤ k) ∧ Aside0 (Kd.R k70 70 w' w.heap.size (fun k_ => k_ ≠ af) v5 a7) ∧ Aside0 (w'.heap[af]? = some (.cells #[vi ab,vi aa] 70 (0,0))) ∧ Aside0 (Below w.heap.size w w'))
 case atStart => exact ⟨(b5),(false),(0),(aK),(aM),Z11x3,Z11x3,H',⟨Nat.le_refl _⟩,⟨by (with_reducible repeat (first | apply Kd.R_alloc | apply Kd.R_drewN | apply Kd.R_drew));exact Kd.R_mono b7.out (fun _ hk => hk.2)⟩,⟨Z11x1⟩,⟨Z11x0⟩⟩
 case round =>
  clear H'
  try clear c1
  try clear p2
  (try clear ae)
  obtain ⟨a7,aR,ad,ab,aa,rfl,rfl,HA,bp,HO_5,ae,HB⟩ := hrel
  cases gk with
  | zero => exact absurd HA.out (by simp [spec_l5Put.l0])
  | succ k1 =>
   have H := HA.out
   clear HA
   simp only [spec_l5Put.l0] at H
   by_cases c6 : ad < (l0.length : Int)
   ·rw [if_pos c6] at H
    have c6b0 : decide (ad < (l0.length : Int)) = true := decide_eq_true c6;clear c6
    by_cases c7 : 0 ≤ ad
    ·rw [if_pos c7] at H
     have c7b0 : decide (0 ≤ ad) = true := decide_eq_true c7;clear c7
     by_cases c8 : (wrap64 (((rd_T70 l0 ad).f1) + 1)) < ab
     ·rw [if_pos c8] at H
      have c8b0 : decide ((wrap64 (((rd_T70 l0 ad).f1) + 1)) < ab) = true := decide_eq_true c8
      (try (have c8b1 : decide ((IntKind.i64.wrap (((rd_T70 l0 ad).f1) + 1)) < ab) = true := by simp only [i64_w];first | exact decide_eq_true c8 | simpa using c8))
      clear c8
      by_cases c9 : a7.length < 8796093022208
      ·rw [if_pos c9] at H
       have ck := mkA c9;clear c9;obtain ⟨b8,aT⟩ : ∃ y_ : List (S70),y_ = (a7 ++ [(⟨(rd_T70 l0 ad).f0,(rd_T70 l0 ad).f1⟩ : S70)]) := ⟨_,rfl⟩
       replace H : (spec_l5Put.l0 k1 l0 b8 aR (wrap64 (ad + 1)) ab aa) = some r := by first | (rw [aT];with_reducible exact H) | (have aH := (Option.bind_some _ _).symm.trans H;rw [aT];with_reducible exact aH) | (have aH := (Option.bind_some _ _).symm.trans H;with_reducible exact aH) | with_reducible exact H | (rw [aT];exact H) | exact H
       have b9 := mkA aT;clear aT;have H' := mkA H;clear H
       try go_wp2
       have ao := mkA (Kd.R_drew HO_5.out);have aq := mkA (blk_drew ae.out);have ar := mkA (below_drew1 HB.out);clear HO_5;clear ae;clear HB;have HO_5 := ao;have ae := aq;have HB := ar;clear ao aq ar;have a8 : 0 ≤ (ad : Int) := of_decide_eq_true Z11x2;have aA : ad < (l0.length : Int) := of_decide_eq_true Z11x2;obtain ⟨ag,aZ,ah,ai⟩ := at_T70 bh.out ad a8 aA;have al := ai;have an := ah
       cases aZ
       replace ah := czB HB.out ah;replace ai := czB HB.out ai;replace a8 := eq_true a8;replace aA := eq_true aA;refine start_ (n := 10) (S := fun w' => w'.cell? ⟨af,0,none⟩ = some (vi ab) ∧ w'.cell? ⟨af,1,none⟩ = some (vi aa) ∧ w'.cell? (ag.add ((ad).toNat * 2)) = some (vi ((rd_T70 l0 ad).f0)) ∧ w'.cell? ⟨(ag.add ((ad).toNat * 2)).block,(ag.add ((ad).toNat * 2)).off + 1,none⟩ = some (vi ((rd_T70 l0 ad).f1))) (ds := []) #[false,false,false,false,false,false,false,false,false,false] (by kernel_rfl) rfl rfl ⟨(blk_cell ae.out 0).trans rfl,(blk_cell ae.out 1).trans rfl,((HB.out.cell (World.block_lt_of_cell? w _ an)).trans an),((HB.out.cell (World.block_lt_of_cell? w _ al)).trans al)⟩ (fun hHeld => ?_);refine with_tabW spec_l5Put.tab7 spec_l5Put.bits7 (fun HT_ HW_ => ?_);generalize wr.drew = cU at HO_5 ae HB ah ai hHeld ⊢;refine pure_ (i := 0) (N := some 33) (v := ?_) (a' := ?_) #[true,false,false,false,false,false,false,false,false,false] rfl rfl (any_of HT_.out (by kernel_rfl)) (fun _ _ _ h => h) (Or.inl ⟨by rfl,?_⟩) ?_ ?_
       rotate_left
       ·intro w'
        go_simp
        with_reducible rfl
       rotate_left
       ·simp only [czP]
        rfl
       refine pure_ (i := 1) (N := some 34) (v := ?_) (a' := ?_) #[true,true,false,false,false,false,false,false,false,false] rfl rfl (any_of HT_.out (by kernel_rfl)) (fun _ _ _ h => h) (Or.inl ⟨by rfl,?_⟩) ?_ ?_
       rotate_left
       ·intro w'
        go_simp
        with_reducible rfl
       rotate_left
       ·simp only [czP]
        rfl
       refine pure_ (i := 2) (N := some 35) (v := ?_) (a' := ?_) #[true,true,true,false,false,false,false,false,false,false] rfl rfl (any_of HT_.out (by kernel_rfl)) (fun _ _ _ h => h) (Or.inl ⟨by rfl,?_⟩) ?_ ?_
       rotate_left
       ·intro w'
        go_simp
        with_reducible rfl
       rotate_left
       ·simp only [czP]
        rfl
       refine pure_ (i := 3) (N := some 36) (v := ?_) (a' := ?_) #[true,true,true,true,false,false,false,false,false,false] rfl rfl (any_of HT_.out (by kernel_rfl)) (fun _ _ _ h => h) (Or.inl ⟨by rfl,?_⟩) ?_ ?_
       rotate_left
       ·intro w'
        go_simp
        with_reducible rfl
       rotate_left
       ·simp only [czP]
        rfl
       refine pure_ (i := 6) (N := some 39) (v := ?_) (a' := ?_) #[true,true,true,true,false,false,true,false,false,false] rfl rfl (any_of HT_.out (by kernel_rfl)) (fun _ _ _ h => h) (Or.inl ⟨by rfl,?_⟩) ?_ ?_
       rotate_left
       ·intro w'
        go_simp
        with_reducible rfl
       rotate_left
       ·simp only [czP]
        rfl
       refine take_ (i := 4) (N := some 37) (v := ?_) (a' := ?_) #[true,true,true,true,true,false,true,false,false,false] rfl rfl (take_ofW HT_.out HW_.out (by kernel_rfl)) (fun _ _ _ h => h) (Or.inl ⟨by rfl,?_⟩) hHeld ?_ ?_
       rotate_left
       ·rintro w' ⟨s0,s1,s2,s3⟩
        go_simp
        with_reducible rfl
       rotate_left
       ·simp only [czP]
        rfl
       refine pure_ (i := 5) (N := some 38) (v := ?_) (a' := ?_) #[true,true,true,true,true,true,true,false,false,false] rfl rfl (any_of HT_.out (by kernel_rfl)) (fun _ _ _ h => h) (Or.inl ⟨by rfl,?_⟩) ?_ ?_
       rotate_left
       ·intro w'
        go_simp
        with_reducible rfl
       rotate_left
       ·simp only [czP]
        rfl
       refine take_ (i := 7) (N := some 40) (v := ?_) (a' := ?_) #[true,true,true,true,true,true,true,true,false,false] rfl rfl (take_ofW HT_.out HW_.out (by kernel_rfl)) (fun _ _ _ h => h) (Or.inl ⟨by rfl,?_⟩) hHeld ?_ ?_
       rotate_left
       ·rintro w' ⟨s0,s1,s2,s3⟩
        go_simp
        with_reducible rfl
       rotate_left
       ·simp only [czP]
        rfl
       refine pure_ (i := 8) (N := some 41) (v := ?_) (a' := ?_) #[true,true,true,true,true,true,true,true,true,false] rfl rfl (any_of HT_.out (by kernel_rfl)) (fun _ _ _ h => h) (Or.inl ⟨by rfl,?_⟩) ?_ ?_
       rotate_left
       ·intro w'
        go_simp
        with_reducible rfl
       rotate_left
       ·simp only [czP]
        rfl
       refine pure_ (i := 9) (N := some 32) (v := ?_) (a' := ?_) #[true,true,true,true,true,true,true,true,true,true] rfl rfl (any_of HT_.out (by kernel_rfl)) (fun _ _ _ h => h) (Or.inl ⟨by rfl,?_⟩) ?_ ?_
       rotate_left
       ·intro w'
        go_simp
        with_reducible rfl
       rotate_left
       ·simp only [czP]
        rfl
       refine done_ (done_of HT_.out (by kernel_rfl)) ?_;have bq : 0 ≤ (ad : Int) := of_decide_eq_true Z11x2;have br : ad < (l0.length : Int) := of_decide_eq_true Z11x2;obtain ⟨bA,cm,a_,ba⟩ := at_T70 bh.out ad bq br;obtain rfl : ag = bA := (by injection cm);replace a_ := czB HB.out a_;replace ba := czB HB.out ba;replace bq := eq_true bq;replace br := eq_true br
       try go_wp2_with (first | ((with_reducible refine gate_builtin (b := .append) (xs := #[.tmp 42,.tmp 47]) rfl ?_);at_builtin;refine Kd.R_append k70 (w0 := w) w.heap.size rfl (.tmp 42) (.tmp 47) 32 70 (.agg #[(vi 0),(vi 0)]) 16 rfl Try.underlying32 info70 rfl (by decide) (by omega) u5 a7 (⟨(rd_T70 l0 ad).f0,(rd_T70 l0 ad).f1⟩ : S70) [vi ((rd_T70 l0 ad).f0),vi ((rd_T70 l0 ad).f1)] (fun k_ => k_ ≠ af) (fun _ => False) rfl rfl ?aP (fun _ hk => hk.elim) ?aF ?aO ?aB ?aS ?aL ?_;(case aP => exact k70_mkM _ _ _ (⟨(rd_T70 l0 ad).f0,(rd_T70 l0 ad).f1⟩ : S70));(case aB => exact Z11x0);(case aF => exact (fun k_ hk => Kd.freshB (g := af) (o := .cells #[vi ab,vi aa] 70 (0,0)) Z11x1 k_ hk));(case aO => exact Z11x4);(case aS => exact (below_size Z11x0));(case aL => have := ck.out;omega);intro cH cV ho hb hg hat;rw [← b9.out] at ho;have ao := mkA (blk_grown (g := af) (o := .cells #[vi ab,vi aa] 70 (0,0)) Z11x1 hg (Kd.R_away HO_5.out (fun _ hk => hk)));have aq := mkA (hb);have ar := mkA (ho);clear ae;clear HB;clear HO_5;have ae := ao;have HB := aq;have bB := ar;clear ao aq ar;clear ho hb hg hat))
       go_roundg k1
       case measure => have := bp.out;omega
       case rel => exact ⟨(b8),(aR),(wrap64 (ad + 1)),(ab),(aa),Z11x3,Z11x3,H',⟨by have := bp.out;omega⟩,⟨by (with_reducible repeat (first | apply Kd.R_alloc | apply Kd.R_drewN | apply Kd.R_drew));exact bB.out⟩,⟨Z11x1⟩,⟨Z11x0⟩⟩
      ·rw [if_neg c9] at H
       exact absurd H (by simp)
     ·rw [if_neg c8] at H
      have c8b0 : decide ((wrap64 (((rd_T70 l0 ad).f1) + 1)) < ab) = false := decide_eq_false c8
      (try (have c8b1 : decide ((IntKind.i64.wrap (((rd_T70 l0 ad).f1) + 1)) < ab) = false := by simp only [i64_w];first | exact decide_eq_false c8 | simpa using c8))
      clear c8
      by_cases bn : ((rd_T70 l0 ad).f0) > (wrap64 (aa + 1))
      ·rw [if_pos bn] at H
       have c12b0 : decide ((wrap64 (aa + 1)) < ((rd_T70 l0 ad).f0)) = true := decide_eq_true bn
       (try (have c12b1 : decide ((IntKind.i64.wrap (aa + 1)) < ((rd_T70 l0 ad).f0)) = true := by simp only [i64_w];first | exact decide_eq_true bn | simpa using bn))
       clear bn
       by_cases bV : aR = true
       ·subst bV
        rw [if_pos rfl] at H
        by_cases bW : a7.length < 8796093022208
        ·rw [if_pos bW] at H
         have bC := mkA bW;clear bW;obtain ⟨bD,aU⟩ : ∃ y_ : List (S70),y_ = (a7 ++ [(⟨(rd_T70 l0 ad).f0,(rd_T70 l0 ad).f1⟩ : S70)]) := ⟨_,rfl⟩
         replace H : (spec_l5Put.l0 k1 l0 bD true (wrap64 (ad + 1)) ab aa) = some r := by first | (rw [aU];with_reducible exact H) | (have aH := (Option.bind_some _ _).symm.trans H;rw [aU];with_reducible exact aH) | (have aH := (Option.bind_some _ _).symm.trans H;with_reducible exact aH) | with_reducible exact H | (rw [aU];exact H) | exact H
         have bE := mkA aU;clear aU;have H' := mkA H;clear H
         try go_wp2
         have ao := mkA (Kd.R_drew HO_5.out);have aq := mkA (blk_drew ae.out);have ar := mkA (below_drew1 HB.out);clear HO_5;clear ae;clear HB;have HO_5 := ao;have ae := aq;have HB := ar;clear ao aq ar;have a8 : 0 ≤ (ad : Int) := of_decide_eq_true Z11x2;have aA : ad < (l0.length : Int) := of_decide_eq_true Z11x2;obtain ⟨ag,aZ,ah,ai⟩ := at_T70 bh.out ad a8 aA;have al := ai;have an := ah
         cases aZ
         replace ah := czB HB.out ah;replace ai := czB HB.out ai;replace a8 := eq_true a8;replace aA := eq_true aA;refine start_ (n := 10) (S := fun w' => w'.cell? ⟨af,0,none⟩ = some (vi ab) ∧ w'.cell? ⟨af,1,none⟩ = some (vi aa) ∧ w'.cell? (ag.add ((ad).toNat * 2)) = some (vi ((rd_T70 l0 ad).f0)) ∧ w'.cell? ⟨(ag.add ((ad).toNat * 2)).block,(ag.add ((ad).toNat * 2)).off + 1,none⟩ = some (vi ((rd_T70 l0 ad).f1))) (ds := []) #[false,false,false,false,false,false,false,false,false,false] (by kernel_rfl) rfl rfl ⟨(blk_cell ae.out 0).trans rfl,(blk_cell ae.out 1).trans rfl,((HB.out.cell (World.block_lt_of_cell? w _ an)).trans an),((HB.out.cell (World.block_lt_of_cell? w _ al)).trans al)⟩ (fun hHeld => ?_);refine with_tabW spec_l5Put.tab7 spec_l5Put.bits7 (fun HT_ HW_ => ?_);generalize wr.drew = cI at HO_5 ae HB ah ai hHeld ⊢;refine pure_ (i := 0) (N := some 33) (v := ?_) (a' := ?_) #[true,false,false,false,false,false,false,false,false,false] rfl rfl (any_of HT_.out (by kernel_rfl)) (fun _ _ _ h => h) (Or.inl ⟨by rfl,?_⟩) ?_ ?_
         rotate_left
         ·intro w'
          go_simp
          with_reducible rfl
         rotate_left
         ·simp only [czP]
          rfl
         refine pure_ (i := 1) (N := some 34) (v := ?_) (a' := ?_) #[true,true,false,false,false,false,false,false,false,false] rfl rfl (any_of HT_.out (by kernel_rfl)) (fun _ _ _ h => h) (Or.inl ⟨by rfl,?_⟩) ?_ ?_
         rotate_left
         ·intro w'
          go_simp
          with_reducible rfl
         rotate_left
         ·simp only [czP]
          rfl
         refine pure_ (i := 2) (N := some 35) (v := ?_) (a' := ?_) #[true,true,true,false,false,false,false,false,false,false] rfl rfl (any_of HT_.out (by kernel_rfl)) (fun _ _ _ h => h) (Or.inl ⟨by rfl,?_⟩) ?_ ?_
         rotate_left
         ·intro w'
          go_simp
          with_reducible rfl
         rotate_left
         ·simp only [czP]
          rfl
         refine pure_ (i := 3) (N := some 36) (v := ?_) (a' := ?_) #[true,true,true,true,false,false,false,false,false,false] rfl rfl (any_of HT_.out (by kernel_rfl)) (fun _ _ _ h => h) (Or.inl ⟨by rfl,?_⟩) ?_ ?_
         rotate_left
         ·intro w'
          go_simp
          with_reducible rfl
         rotate_left
         ·simp only [czP]
          rfl
         refine pure_ (i := 6) (N := some 39) (v := ?_) (a' := ?_) #[true,true,true,true,false,false,true,false,false,false] rfl rfl (any_of HT_.out (by kernel_rfl)) (fun _ _ _ h => h) (Or.inl ⟨by rfl,?_⟩) ?_ ?_
         rotate_left
         ·intro w'
          go_simp
          with_reducible rfl
         rotate_left
         ·simp only [czP]
          rfl
         refine take_ (i := 4) (N := some 37) (v := ?_) (a' := ?_) #[true,true,true,true,true,false,true,false,false,false] rfl rfl (take_ofW HT_.out HW_.out (by kernel_rfl)) (fun _ _ _ h => h) (Or.inl ⟨by rfl,?_⟩) hHeld ?_ ?_
         rotate_left
         ·rintro w' ⟨s0,s1,s2,s3⟩
          go_simp
          with_reducible rfl
         rotate_left
         ·simp only [czP]
          rfl
         refine pure_ (i := 5) (N := some 38) (v := ?_) (a' := ?_) #[true,true,true,true,true,true,true,false,false,false] rfl rfl (any_of HT_.out (by kernel_rfl)) (fun _ _ _ h => h) (Or.inl ⟨by rfl,?_⟩) ?_ ?_
         rotate_left
         ·intro w'
          go_simp
          with_reducible rfl
         rotate_left
         ·simp only [czP]
          rfl
         refine take_ (i := 7) (N := some 40) (v := ?_) (a' := ?_) #[true,true,true,true,true,true,true,true,false,false] rfl rfl (take_ofW HT_.out HW_.out (by kernel_rfl)) (fun _ _ _ h => h) (Or.inl ⟨by rfl,?_⟩) hHeld ?_ ?_
         rotate_left
         ·rintro w' ⟨s0,s1,s2,s3⟩
          go_simp
          with_reducible rfl
         rotate_left
         ·simp only [czP]
          rfl
         refine pure_ (i := 8) (N := some 41) (v := ?_) (a' := ?_) #[true,true,true,true,true,true,true,true,true,false] rfl rfl (any_of HT_.out (by kernel_rfl)) (fun _ _ _ h => h) (Or.inl ⟨by rfl,?_⟩) ?_ ?_
         rotate_left
         ·intro w'
          go_simp
          with_reducible rfl
         rotate_left
         ·simp only [czP]
          rfl
         refine pure_ (i := 9) (N := some 32) (v := ?_) (a' := ?_) #[true,true,true,true,true,true,true,true,true,true] rfl rfl (any_of HT_.out (by kernel_rfl)) (fun _ _ _ h => h) (Or.inl ⟨by rfl,?_⟩) ?_ ?_
         rotate_left
         ·intro w'
          go_simp
          with_reducible rfl
         rotate_left
         ·simp only [czP]
          rfl
         refine done_ (done_of HT_.out (by kernel_rfl)) ?_
         try go_wp2
         have ao := mkA (Kd.R_drew HO_5.out);have aq := mkA (blk_drew ae.out);have ar := mkA (below_drew1 HB.out);clear HO_5;clear ae;clear HB;have HO_5 := ao;have ae := aq;have HB := ar;clear ao aq ar;have aI : 0 ≤ (ad : Int) := of_decide_eq_true Z11x2;have aJ : ad < (l0.length : Int) := of_decide_eq_true Z11x2;obtain ⟨aV,bk,aj,ak⟩ := at_T70 bh.out ad aI aJ;have au := ak;have av := aj;obtain rfl : ag = aV := (by injection bk);replace aj := czB HB.out aj;replace ak := czB HB.out ak;replace aI := eq_true aI;replace aJ := eq_true aJ;refine start_ (n := 10) (S := fun w' => w'.cell? ⟨af,0,none⟩ = some (vi ab) ∧ w'.cell? ⟨af,1,none⟩ = some (vi aa) ∧ w'.cell? (ag.add ((ad).toNat * 2)) = some (vi ((rd_T70 l0 ad).f0)) ∧ w'.cell? ⟨(ag.add ((ad).toNat * 2)).block,(ag.add ((ad).toNat * 2)).off + 1,none⟩ = some (vi ((rd_T70 l0 ad).f1))) (ds := []) #[false,false,false,false,false,false,false,false,false,false] (by kernel_rfl) rfl rfl ⟨(blk_cell ae.out 0).trans rfl,(blk_cell ae.out 1).trans rfl,((HB.out.cell (World.block_lt_of_cell? w _ av)).trans av),((HB.out.cell (World.block_lt_of_cell? w _ au)).trans au)⟩ (fun hHeld => ?_);refine with_tabW spec_l5Put.tab9 spec_l5Put.bits9 (fun HT_ HW_ => ?_);generalize cI.drew = cW at HO_5 ae HB aj ak hHeld ⊢;refine pure_ (i := 0) (N := some 50) (v := ?_) (a' := ?_) #[true,false,false,false,false,false,false,false,false,false] rfl rfl (any_of HT_.out (by kernel_rfl)) (fun _ _ _ h => h) (Or.inl ⟨by rfl,?_⟩) ?_ ?_
         rotate_left
         ·intro w'
          go_simp
          with_reducible rfl
         rotate_left
         ·simp only [czP]
          rfl
         refine pure_ (i := 1) (N := some 51) (v := ?_) (a' := ?_) #[true,true,false,false,false,false,false,false,false,false] rfl rfl (any_of HT_.out (by kernel_rfl)) (fun _ _ _ h => h) (Or.inl ⟨by rfl,?_⟩) ?_ ?_
         rotate_left
         ·intro w'
          go_simp
          with_reducible rfl
         rotate_left
         ·simp only [czP]
          rfl
         refine pure_ (i := 2) (N := some 52) (v := ?_) (a' := ?_) #[true,true,true,false,false,false,false,false,false,false] rfl rfl (any_of HT_.out (by kernel_rfl)) (fun _ _ _ h => h) (Or.inl ⟨by rfl,?_⟩) ?_ ?_
         rotate_left
         ·intro w'
          go_simp
          with_reducible rfl
         rotate_left
         ·simp only [czP]
          rfl
         refine pure_ (i := 3) (N := some 53) (v := ?_) (a' := ?_) #[true,true,true,true,false,false,false,false,false,false] rfl rfl (any_of HT_.out (by kernel_rfl)) (fun _ _ _ h => h) (Or.inl ⟨by rfl,?_⟩) ?_ ?_
         rotate_left
         ·intro w'
          go_simp
          with_reducible rfl
         rotate_left
         ·simp only [czP]
          rfl
         refine pure_ (i := 5) (N := some 55) (v := ?_) (a' := ?_) #[true,true,true,true,false,true,false,false,false,false] rfl rfl (any_of HT_.out (by kernel_rfl)) (fun _ _ _ h => h) (Or.inl ⟨by rfl,?_⟩) ?_ ?_
         rotate_left
         ·intro w'
          go_simp
          with_reducible rfl
         rotate_left
         ·simp only [czP]
          rfl
         refine take_ (i := 4) (N := some 54) (v := ?_) (a' := ?_) #[true,true,true,true,true,true,false,false,false,false] rfl rfl (take_ofW HT_.out HW_.out (by kernel_rfl)) (fun _ _ _ h => h) (Or.inl ⟨by rfl,?_⟩) hHeld ?_ ?_
         rotate_left
         ·rintro w' ⟨s0,s1,s2,s3⟩
          go_simp
          with_reducible rfl
         rotate_left
         ·simp only [czP]
          rfl
         refine take_ (i := 6) (N := some 56) (v := ?_) (a' := ?_) #[true,true,true,true,true,true,true,false,false,false] rfl rfl (take_ofW HT_.out HW_.out (by kernel_rfl)) (fun _ _ _ h => h) (Or.inl ⟨by rfl,?_⟩) hHeld ?_ ?_
         rotate_left
         ·rintro w' ⟨s0,s1,s2,s3⟩
          go_simp
          with_reducible rfl
         rotate_left
         ·simp only [czP]
          rfl
         refine pure_ (i := 7) (N := some 57) (v := ?_) (a' := ?_) #[true,true,true,true,true,true,true,true,false,false] rfl rfl (any_of HT_.out (by kernel_rfl)) (fun _ _ _ h => h) (Or.inl ⟨by rfl,?_⟩) ?_ ?_
         rotate_left
         ·intro w'
          go_simp
          with_reducible rfl
         rotate_left
         ·simp only [czP]
          rfl
         refine pure_ (i := 8) (N := some 58) (v := ?_) (a' := ?_) #[true,true,true,true,true,true,true,true,true,false] rfl rfl (any_of HT_.out (by kernel_rfl)) (fun _ _ _ h => h) (Or.inl ⟨by rfl,?_⟩) ?_ ?_
         rotate_left
         ·intro w'
          go_simp
          with_reducible rfl
         rotate_left
         ·simp only [czP]
          rfl
         refine pure_ (i := 9) (N := some 49) (v := ?_) (a' := ?_) #[true,true,true,true,true,true,true,true,true,true] rfl rfl (any_of HT_.out (by kernel_rfl)) (fun _ _ _ h => h) (Or.inl ⟨by rfl,?_⟩) ?_ ?_
         rotate_left
         ·intro w'
          go_simp
          with_reducible rfl
         rotate_left
         ·simp only [czP]
          rfl
         refine done_ (done_of HT_.out (by kernel_rfl)) ?_;have bs : 0 ≤ (ad : Int) := of_decide_eq_true Z11x2;have bu : ad < (l0.length : Int) := of_decide_eq_true Z11x2;obtain ⟨bF,cn,bb,bc⟩ := at_T70 bh.out ad bs bu;obtain rfl : ag = bF := (by injection cn);replace bb := czB HB.out bb;replace bc := czB HB.out bc;replace bs := eq_true bs;replace bu := eq_true bu
         try go_wp2_with (first | ((with_reducible refine gate_builtin (b := .append) (xs := #[.tmp 65,.tmp 70]) rfl ?_);at_builtin;refine Kd.R_append k70 (w0 := w) w.heap.size rfl (.tmp 65) (.tmp 70) 32 70 (.agg #[(vi 0),(vi 0)]) 16 rfl Try.underlying32 info70 rfl (by decide) (by omega) u5 a7 (⟨(rd_T70 l0 ad).f0,(rd_T70 l0 ad).f1⟩ : S70) [vi ((rd_T70 l0 ad).f0),vi ((rd_T70 l0 ad).f1)] (fun k_ => k_ ≠ af) (fun _ => False) rfl rfl ?aP (fun _ hk => hk.elim) ?aF ?aO ?aB ?aS ?aL ?_;(case aP => exact k70_mkM _ _ _ (⟨(rd_T70 l0 ad).f0,(rd_T70 l0 ad).f1⟩ : S70));(case aB => exact Z11x0);(case aF => exact (fun k_ hk => Kd.freshB (g := af) (o := .cells #[vi ab,vi aa] 70 (0,0)) Z11x1 k_ hk));(case aO => exact Z11x4);(case aS => exact (below_size Z11x0));(case aL => have := bC.out;omega);intro cJ cX ho hb hg hat;rw [← bE.out] at ho;have ao := mkA (blk_grown (g := af) (o := .cells #[vi ab,vi aa] 70 (0,0)) Z11x1 hg (Kd.R_away HO_5.out (fun _ hk => hk)));have aq := mkA (hb);have ar := mkA (ho);clear ae;clear HB;clear HO_5;have ae := ao;have HB := aq;have bG := ar;clear ao aq ar;clear ho hb hg hat))
         go_roundg k1
         case measure => have := bp.out;omega
         case rel => exact ⟨(bD),(true),(wrap64 (ad + 1)),(ab),(aa),Z11x3,Z11x3,H',⟨by have := bp.out;omega⟩,⟨by (with_reducible repeat (first | apply Kd.R_alloc | apply Kd.R_drewN | apply Kd.R_drew));exact bG.out⟩,⟨Z11x1⟩,⟨Z11x0⟩⟩
        ·rw [if_neg bW] at H
         exact absurd H (by simp)
       ·replace bV := Bool.eq_false_iff.mpr bV
        subst bV;rw [if_neg (show ¬ (false = true) by decide)] at H
        by_cases bX : a7.length < 8796093022208
        ·rw [if_pos bX] at H
         have bH := mkA bX;clear bX;obtain ⟨aN,aW⟩ : ∃ y_ : List (S70),y_ = (a7 ++ [(⟨ab,aa⟩ : S70)]) := ⟨_,rfl⟩
         replace H : (if aN.length < 8796093022208 then (spec_l5Put.l0 k1 l0 (aN ++ [(⟨(rd_T70 l0 ad).f0,(rd_T70 l0 ad).f1⟩ : S70)]) true (wrap64 (ad + 1)) ab aa) else (none)) = some r := by first | (rw [aW];with_reducible exact H) | (have aH := (Option.bind_some _ _).symm.trans H;rw [aW];with_reducible exact aH) | (have aH := (Option.bind_some _ _).symm.trans H;with_reducible exact aH) | with_reducible exact H | (rw [aW];exact H) | exact H
         have bI := mkA aW;clear aW
         by_cases bY : aN.length < 8796093022208
         ·rw [if_pos bY] at H
          have bJ := mkA bY;clear bY;obtain ⟨bK,aX⟩ : ∃ y_ : List (S70),y_ = (aN ++ [(⟨(rd_T70 l0 ad).f0,(rd_T70 l0 ad).f1⟩ : S70)]) := ⟨_,rfl⟩
          replace H : (spec_l5Put.l0 k1 l0 bK true (wrap64 (ad + 1)) ab aa) = some r := by first | (rw [aX];with_reducible exact H) | (have aH := (Option.bind_some _ _).symm.trans H;rw [aX];with_reducible exact aH) | (have aH := (Option.bind_some _ _).symm.trans H;with_reducible exact aH) | with_reducible exact H | (rw [aX];exact H) | exact H
          have bL := mkA aX;clear aX;have H' := mkA H;clear H
          try go_wp2
          have ao := mkA (Kd.R_drew HO_5.out);have aq := mkA (blk_drew ae.out);have ar := mkA (below_drew1 HB.out);clear HO_5;clear ae;clear HB;have HO_5 := ao;have ae := aq;have HB := ar;clear ao aq ar;have a8 : 0 ≤ (ad : Int) := of_decide_eq_true Z11x2;have aA : ad < (l0.length : Int) := of_decide_eq_true Z11x2;obtain ⟨ag,aZ,ah,ai⟩ := at_T70 bh.out ad a8 aA;have al := ai;have an := ah
          cases aZ
          replace ah := czB HB.out ah;replace ai := czB HB.out ai;replace a8 := eq_true a8;replace aA := eq_true aA;refine start_ (n := 10) (S := fun w' => w'.cell? ⟨af,0,none⟩ = some (vi ab) ∧ w'.cell? ⟨af,1,none⟩ = some (vi aa) ∧ w'.cell? (ag.add ((ad).toNat * 2)) = some (vi ((rd_T70 l0 ad).f0)) ∧ w'.cell? ⟨(ag.add ((ad).toNat * 2)).block,(ag.add ((ad).toNat * 2)).off + 1,none⟩ = some (vi ((rd_T70 l0 ad).f1))) (ds := []) #[false,false,false,false,false,false,false,false,false,false] (by kernel_rfl) rfl rfl ⟨(blk_cell ae.out 0).trans rfl,(blk_cell ae.out 1).trans rfl,((HB.out.cell (World.block_lt_of_cell? w _ an)).trans an),((HB.out.cell (World.block_lt_of_cell? w _ al)).trans al)⟩ (fun hHeld => ?_);refine with_tabW spec_l5Put.tab7 spec_l5Put.bits7 (fun HT_ HW_ => ?_);generalize wr.drew = cK at HO_5 ae HB ah ai hHeld ⊢;refine pure_ (i := 0) (N := some 33) (v := ?_) (a' := ?_) #[true,false,false,false,false,false,false,false,false,false] rfl rfl (any_of HT_.out (by kernel_rfl)) (fun _ _ _ h => h) (Or.inl ⟨by rfl,?_⟩) ?_ ?_
          rotate_left
          ·intro w'
           go_simp
           with_reducible rfl
          rotate_left
          ·simp only [czP]
           rfl
          refine pure_ (i := 1) (N := some 34) (v := ?_) (a' := ?_) #[true,true,false,false,false,false,false,false,false,false] rfl rfl (any_of HT_.out (by kernel_rfl)) (fun _ _ _ h => h) (Or.inl ⟨by rfl,?_⟩) ?_ ?_
          rotate_left
          ·intro w'
           go_simp
           with_reducible rfl
          rotate_left
          ·simp only [czP]
           rfl
          refine pure_ (i := 2) (N := some 35) (v := ?_) (a' := ?_) #[true,true,true,false,false,false,false,false,false,false] rfl rfl (any_of HT_.out (by kernel_rfl)) (fun _ _ _ h => h) (Or.inl ⟨by rfl,?_⟩) ?_ ?_
          rotate_left
          ·intro w'
           go_simp
           with_reducible rfl
          rotate_left
          ·simp only [czP]
           rfl
          refine pure_ (i := 3) (N := some 36) (v := ?_) (a' := ?_) #[true,true,true,true,false,false,false,false,false,false] rfl rfl (any_of HT_.out (by kernel_rfl)) (fun _ _ _ h => h) (Or.inl ⟨by rfl,?_⟩) ?_ ?_
          rotate_left
          ·intro w'
           go_simp
           with_reducible rfl
          rotate_left
          ·simp only [czP]
           rfl
          refine pure_ (i := 6) (N := some 39) (v := ?_) (a' := ?_) #[true,true,true,true,false,false,true,false,false,false] rfl rfl (any_of HT_.out (by kernel_rfl)) (fun _ _ _ h => h) (Or.inl ⟨by rfl,?_⟩) ?_ ?_
          rotate_left
          ·intro w'
           go_simp
           with_reducible rfl
          rotate_left
          ·simp only [czP]
           rfl
          refine take_ (i := 4) (N := some 37) (v := ?_) (a' := ?_) #[true,true,true,true,true,false,true,false,false,false] rfl rfl (take_ofW HT_.out HW_.out (by kernel_rfl)) (fun _ _ _ h => h) (Or.inl ⟨by rfl,?_⟩) hHeld ?_ ?_
          rotate_left
          ·rintro w' ⟨s0,s1,s2,s3⟩
           go_simp
           with_reducible rfl
          rotate_left
          ·simp only [czP]
           rfl
          refine pure_ (i := 5) (N := some 38) (v := ?_) (a' := ?_) #[true,true,true,true,true,true,true,false,false,false] rfl rfl (any_of HT_.out (by kernel_rfl)) (fun _ _ _ h => h) (Or.inl ⟨by rfl,?_⟩) ?_ ?_
          rotate_left
          ·intro w'
           go_simp
           with_reducible rfl
          rotate_left
          ·simp only [czP]
           rfl
          refine take_ (i := 7) (N := some 40) (v := ?_) (a' := ?_) #[true,true,true,true,true,true,true,true,false,false] rfl rfl (take_ofW HT_.out HW_.out (by kernel_rfl)) (fun _ _ _ h => h) (Or.inl ⟨by rfl,?_⟩) hHeld ?_ ?_
          rotate_left
          ·rintro w' ⟨s0,s1,s2,s3⟩
           go_simp
           with_reducible rfl
          rotate_left
          ·simp only [czP]
           rfl
          refine pure_ (i := 8) (N := some 41) (v := ?_) (a' := ?_) #[true,true,true,true,true,true,true,true,true,false] rfl rfl (any_of HT_.out (by kernel_rfl)) (fun _ _ _ h => h) (Or.inl ⟨by rfl,?_⟩) ?_ ?_
          rotate_left
          ·intro w'
           go_simp
           with_reducible rfl
          rotate_left
          ·simp only [czP]
           rfl
          refine pure_ (i := 9) (N := some 32) (v := ?_) (a' := ?_) #[true,true,true,true,true,true,true,true,true,true] rfl rfl (any_of HT_.out (by kernel_rfl)) (fun _ _ _ h => h) (Or.inl ⟨by rfl,?_⟩) ?_ ?_
          rotate_left
          ·intro w'
           go_simp
           with_reducible rfl
          rotate_left
          ·simp only [czP]
           rfl
          refine done_ (done_of HT_.out (by kernel_rfl)) ?_
          try go_wp2
          have ao := mkA (Kd.R_drew HO_5.out);have aq := mkA (blk_drew ae.out);have ar := mkA (below_drew1 HB.out);clear HO_5;clear ae;clear HB;have HO_5 := ao;have ae := aq;have HB := ar;clear ao aq ar;have aI : 0 ≤ (ad : Int) := of_decide_eq_true Z11x2;have aJ : ad < (l0.length : Int) := of_decide_eq_true Z11x2;obtain ⟨aV,bk,aj,ak⟩ := at_T70 bh.out ad aI aJ;have au := ak;have av := aj;obtain rfl : ag = aV := (by injection bk);replace aj := czB HB.out aj;replace ak := czB HB.out ak;replace aI := eq_true aI;replace aJ := eq_true aJ;refine start_ (n := 10) (S := fun w' => w'.cell? ⟨af,0,none⟩ = some (vi ab) ∧ w'.cell? ⟨af,1,none⟩ = some (vi aa) ∧ w'.cell? (ag.add ((ad).toNat * 2)) = some (vi ((rd_T70 l0 ad).f0)) ∧ w'.cell? ⟨(ag.add ((ad).toNat * 2)).block,(ag.add ((ad).toNat * 2)).off + 1,none⟩ = some (vi ((rd_T70 l0 ad).f1))) (ds := []) #[false,false,false,false,false,false,false,false,false,false] (by kernel_rfl) rfl rfl ⟨(blk_cell ae.out 0).trans rfl,(blk_cell ae.out 1).trans rfl,((HB.out.cell (World.block_lt_of_cell? w _ av)).trans av),((HB.out.cell (World.block_lt_of_cell? w _ au)).trans au)⟩ (fun hHeld => ?_);refine with_tabW spec_l5Put.tab9 spec_l5Put.bits9 (fun HT_ HW_ => ?_);generalize cK.drew = cB at HO_5 ae HB aj ak hHeld ⊢;refine pure_ (i := 0) (N := some 50) (v := ?_) (a' := ?_) #[true,false,false,false,false,false,false,false,false,false] rfl rfl (any_of HT_.out (by kernel_rfl)) (fun _ _ _ h => h) (Or.inl ⟨by rfl,?_⟩) ?_ ?_
          rotate_left
          ·intro w'
           go_simp
           with_reducible rfl
          rotate_left
          ·simp only [czP]
           rfl
          refine pure_ (i := 1) (N := some 51) (v := ?_) (a' := ?_) #[true,true,false,false,false,false,false,false,false,false] rfl rfl (any_of HT_.out (by kernel_rfl)) (fun _ _ _ h => h) (Or.inl ⟨by rfl,?_⟩) ?_ ?_
          rotate_left
          ·intro w'
           go_simp
           with_reducible rfl
          rotate_left
          ·simp only [czP]
           rfl
          refine pure_ (i := 2) (N := some 52) (v := ?_) (a' := ?_) #[true,true,true,false,false,false,false,false,false,false] rfl rfl (any_of HT_.out (by kernel_rfl)) (fun _ _ _ h => h) (Or.inl ⟨by rfl,?_⟩) ?_ ?_
          rotate_left
          ·intro w'
           go_simp
           with_reducible rfl
          rotate_left
          ·simp only [czP]
           rfl
          refine pure_ (i := 3) (N := some 53) (v := ?_) (a' := ?_) #[true,true,true,true,false,false,false,false,false,false] rfl rfl (any_of HT_.out (by kernel_rfl)) (fun _ _ _ h => h) (Or.inl ⟨by rfl,?_⟩) ?_ ?_
          rotate_left
          ·intro w'
           go_simp
           with_reducible rfl
          rotate_left
          ·simp only [czP]
           rfl
          refine pure_ (i := 5) (N := some 55) (v := ?_) (a' := ?_) #[true,true,true,true,false,true,false,false,false,false] rfl rfl (any_of HT_.out (by kernel_rfl)) (fun _ _ _ h => h) (Or.inl ⟨by rfl,?_⟩) ?_ ?_
          rotate_left
          ·intro w'
           go_simp
           with_reducible rfl
          rotate_left
          ·simp only [czP]
           rfl
          refine take_ (i := 4) (N := some 54) (v := ?_) (a' := ?_) #[true,true,true,true,true,true,false,false,false,false] rfl rfl (take_ofW HT_.out HW_.out (by kernel_rfl)) (fun _ _ _ h => h) (Or.inl ⟨by rfl,?_⟩) hHeld ?_ ?_
          rotate_left
          ·rintro w' ⟨s0,s1,s2,s3⟩
           go_simp
           with_reducible rfl
          rotate_left
          ·simp only [czP]
           rfl
          refine take_ (i := 6) (N := some 56) (v := ?_) (a' := ?_) #[true,true,true,true,true,true,true,false,false,false] rfl rfl (take_ofW HT_.out HW_.out (by kernel_rfl)) (fun _ _ _ h => h) (Or.inl ⟨by rfl,?_⟩) hHeld ?_ ?_
          rotate_left
          ·rintro w' ⟨s0,s1,s2,s3⟩
           go_simp
           with_reducible rfl
          rotate_left
          ·simp only [czP]
           rfl
          refine pure_ (i := 7) (N := some 57) (v := ?_) (a' := ?_) #[true,true,true,true,true,true,true,true,false,false] rfl rfl (any_of HT_.out (by kernel_rfl)) (fun _ _ _ h => h) (Or.inl ⟨by rfl,?_⟩) ?_ ?_
          rotate_left
          ·intro w'
           go_simp
           with_reducible rfl
          rotate_left
          ·simp only [czP]
           rfl
          refine pure_ (i := 8) (N := some 58) (v := ?_) (a' := ?_) #[true,true,true,true,true,true,true,true,true,false] rfl rfl (any_of HT_.out (by kernel_rfl)) (fun _ _ _ h => h) (Or.inl ⟨by rfl,?_⟩) ?_ ?_
          rotate_left
          ·intro w'
           go_simp
           with_reducible rfl
          rotate_left
          ·simp only [czP]
           rfl
          refine pure_ (i := 9) (N := some 49) (v := ?_) (a' := ?_) #[true,true,true,true,true,true,true,true,true,true] rfl rfl (any_of HT_.out (by kernel_rfl)) (fun _ _ _ h => h) (Or.inl ⟨by rfl,?_⟩) ?_ ?_
          rotate_left
          ·intro w'
           go_simp
           with_reducible rfl
          rotate_left
          ·simp only [czP]
           rfl
          refine done_ (done_of HT_.out (by kernel_rfl)) ?_;have bZ : cB.cell? ⟨af,0,none⟩ = some (vi ab) := (blk_cell ae.out 0).trans rfl;have b_ : cB.cell? ⟨af,1,none⟩ = some (vi aa) := (blk_cell ae.out 1).trans rfl;have ca := blk_frozen ae.out 0;have cb := blk_frozen ae.out 1
          try go_wp2_with (first | ((with_reducible refine gate_builtin (b := .append) (xs := #[.tmp 61,.tmp 63]) rfl ?_);at_builtin;refine Kd.R_append k70 (w0 := w) w.heap.size rfl (.tmp 61) (.tmp 63) 32 70 (.agg #[(vi 0),(vi 0)]) 16 rfl Try.underlying32 info70 rfl (by decide) (by omega) u5 a7 (⟨ab,aa⟩ : S70) [vi ab,vi aa] (fun k_ => k_ ≠ af) (fun _ => False) rfl rfl ?aP (fun _ hk => hk.elim) ?aF ?aO ?aB ?aS ?aL ?_;(case aP => exact k70_mkM _ _ _ (⟨ab,aa⟩ : S70));(case aB => exact Z11x0);(case aF => exact (fun k_ hk => Kd.freshB (g := af) (o := .cells #[vi ab,vi aa] 70 (0,0)) Z11x1 k_ hk));(case aO => exact Z11x4);(case aS => exact (below_size Z11x0));(case aL => have := bH.out;omega);intro cq cY ho hb hg hat;rw [← bI.out] at ho;have ao := mkA (blk_grown (g := af) (o := .cells #[vi ab,vi aa] 70 (0,0)) Z11x1 hg (Kd.R_away HO_5.out (fun _ hk => hk)));have aq := mkA (hb);have ar := mkA (ho);clear ae;clear HB;clear HO_5;have ae := ao;have HB := aq;have bm := ar;clear ao aq ar;clear ho hb hg hat;have bw : 0 ≤ (ad : Int) := of_decide_eq_true Z11x2;have bz : ad < (l0.length : Int) := of_decide_eq_true Z11x2;obtain ⟨bM,cr,bd,bf⟩ := at_T70 bh.out ad bw bz;obtain rfl : ag = bM := (by injection cr);replace bd := czB HB.out bd;replace bf := czB HB.out bf;replace bw := eq_true bw;replace bz := eq_true bz) | ((with_reducible refine gate_builtin (b := .append) (xs := #[.tmp 65,.tmp 70]) rfl ?_);at_builtin;refine Kd.R_append k70 (w0 := w) w.heap.size rfl (.tmp 65) (.tmp 70) 32 70 (.agg #[(vi 0),(vi 0)]) 16 rfl Try.underlying32 info70 rfl (by decide) (by omega) cq aN (⟨(rd_T70 l0 ad).f0,(rd_T70 l0 ad).f1⟩ : S70) [vi ((rd_T70 l0 ad).f0),vi ((rd_T70 l0 ad).f1)] (fun k_ => k_ ≠ af) (fun _ => False) rfl rfl ?aP (fun _ hk => hk.elim) ?aF ?aO ?aB ?aS ?aL ?_;(case aP => exact k70_mkM _ _ _ (⟨(rd_T70 l0 ad).f0,(rd_T70 l0 ad).f1⟩ : S70));(case aB => exact Z11x0);(case aF => exact (fun k_ hk => Kd.freshB (g := af) (o := .cells #[vi ab,vi aa] 70 (0,0)) Z11x1 k_ hk));(case aO => exact (by (with_reducible repeat (first | apply Kd.R_alloc | apply Kd.R_drewN | apply Kd.R_drew));exact bm.out));(case aS => exact (below_size Z11x0));(case aL => have := bJ.out;omega);intro cL cZ ho hb hg hat;rw [← bL.out] at ho;have ao := mkA (blk_grown (g := af) (o := .cells #[vi ab,vi aa] 70 (0,0)) Z11x1 hg (Kd.R_away bm.out (fun _ hk => hk)));have aq := mkA (hb);have ar := mkA (ho);clear ae;clear HB;clear bm;have ae := ao;have HB := aq;have bN := ar;clear ao aq ar;clear ho hb hg hat))
          go_roundg k1
          case measure => have := bp.out;omega
          case rel => exact ⟨(bK),(true),(wrap64 (ad + 1)),(ab),(aa),Z11x3,Z11x3,H',⟨by have := bp.out;omega⟩,⟨by (with_reducible repeat (first | apply Kd.R_alloc | apply Kd.R_drewN | apply Kd.R_drew));exact bN.out⟩,⟨Z11x1⟩,⟨Z11x0⟩⟩
         ·rw [if_neg bY] at H
          exact absurd H (by simp)
        ·rw [if_neg bX] at H
         exact absurd H (by simp)
      ·rw [if_neg bn] at H
       have c12b0 : decide ((wrap64 (aa + 1)) < ((rd_T70 l0 ad).f0)) = false := decide_eq_false bn
       (try (have c12b1 : decide ((IntKind.i64.wrap (aa + 1)) < ((rd_T70 l0 ad).f0)) = false := by simp only [i64_w];first | exact decide_eq_false bn | simpa using bn))
       clear bn;replace H := Option.bind_eq_some_iff.mp H;obtain ⟨bg,bO,H⟩ := H
       try dsimp only at H
       have cM := mkA bO;clear bO;replace H := Option.bind_eq_some_iff.mp H;obtain ⟨bj,bP,H⟩ := H
       try dsimp only at H
       have cN := mkA bP;clear bP;have H' := mkA H;clear H
       try go_wp2
       have ao := mkA (Kd.R_drew HO_5.out);have aq := mkA (blk_drew ae.out);have ar := mkA (below_drew1 HB.out);clear HO_5;clear ae;clear HB;have HO_5 := ao;have ae := aq;have HB := ar;clear ao aq ar;have a8 : 0 ≤ (ad : Int) := of_decide_eq_true Z11x2;have aA : ad < (l0.length : Int) := of_decide_eq_true Z11x2;obtain ⟨ag,aZ,ah,ai⟩ := at_T70 bh.out ad a8 aA;have al := ai;have an := ah
       cases aZ
       replace ah := czB HB.out ah;replace ai := czB HB.out ai;replace a8 := eq_true a8;replace aA := eq_true aA;refine start_ (n := 10) (S := fun w' => w'.cell? ⟨af,0,none⟩ = some (vi ab) ∧ w'.cell? ⟨af,1,none⟩ = some (vi aa) ∧ w'.cell? (ag.add ((ad).toNat * 2)) = some (vi ((rd_T70 l0 ad).f0)) ∧ w'.cell? ⟨(ag.add ((ad).toNat * 2)).block,(ag.add ((ad).toNat * 2)).off + 1,none⟩ = some (vi ((rd_T70 l0 ad).f1))) (ds := []) #[false,false,false,false,false,false,false,false,false,false] (by kernel_rfl) rfl rfl ⟨(blk_cell ae.out 0).trans rfl,(blk_cell ae.out 1).trans rfl,((HB.out.cell (World.block_lt_of_cell? w _ an)).trans an),((HB.out.cell (World.block_lt_of_cell? w _ al)).trans al)⟩ (fun hHeld => ?_);refine with_tabW spec_l5Put.tab7 spec_l5Put.bits7 (fun HT_ HW_ => ?_);generalize wr.drew = cO at HO_5 ae HB ah ai hHeld ⊢;refine pure_ (i := 0) (N := some 33) (v := ?_) (a' := ?_) #[true,false,false,false,false,false,false,false,false,false] rfl rfl (any_of HT_.out (by kernel_rfl)) (fun _ _ _ h => h) (Or.inl ⟨by rfl,?_⟩) ?_ ?_
       rotate_left
       ·intro w'
        go_simp
        with_reducible rfl
       rotate_left
       ·simp only [czP]
        rfl
       refine pure_ (i := 1) (N := some 34) (v := ?_) (a' := ?_) #[true,true,false,false,false,false,false,false,false,false] rfl rfl (any_of HT_.out (by kernel_rfl)) (fun _ _ _ h => h) (Or.inl ⟨by rfl,?_⟩) ?_ ?_
       rotate_left
       ·intro w'
        go_simp
        with_reducible rfl
       rotate_left
       ·simp only [czP]
        rfl
       refine pure_ (i := 2) (N := some 35) (v := ?_) (a' := ?_) #[true,true,true,false,false,false,false,false,false,false] rfl rfl (any_of HT_.out (by kernel_rfl)) (fun _ _ _ h => h) (Or.inl ⟨by rfl,?_⟩) ?_ ?_
       rotate_left
       ·intro w'
        go_simp
        with_reducible rfl
       rotate_left
       ·simp only [czP]
        rfl
       refine pure_ (i := 3) (N := some 36) (v := ?_) (a' := ?_) #[true,true,true,true,false,false,false,false,false,false] rfl rfl (any_of HT_.out (by kernel_rfl)) (fun _ _ _ h => h) (Or.inl ⟨by rfl,?_⟩) ?_ ?_
       rotate_left
       ·intro w'
        go_simp
        with_reducible rfl
       rotate_left
       ·simp only [czP]
        rfl
       refine pure_ (i := 6) (N := some 39) (v := ?_) (a' := ?_) #[true,true,true,true,false,false,true,false,false,false] rfl rfl (any_of HT_.out (by kernel_rfl)) (fun _ _ _ h => h) (Or.inl ⟨by rfl,?_⟩) ?_ ?_
       rotate_left
       ·intro w'
        go_simp
        with_reducible rfl
       rotate_left
       ·simp only [czP]
        rfl
       refine take_ (i := 4) (N := some 37) (v := ?_) (a' := ?_) #[true,true,true,true,true,false,true,false,false,false] rfl rfl (take_ofW HT_.out HW_.out (by kernel_rfl)) (fun _ _ _ h => h) (Or.inl ⟨by rfl,?_⟩) hHeld ?_ ?_
       rotate_left
       ·rintro w' ⟨s0,s1,s2,s3⟩
        go_simp
        with_reducible rfl
       rotate_left
       ·simp only [czP]
        rfl
       refine pure_ (i := 5) (N := some 38) (v := ?_) (a' := ?_) #[true,true,true,true,true,true,true,false,false,false] rfl rfl (any_of HT_.out (by kernel_rfl)) (fun _ _ _ h => h) (Or.inl ⟨by rfl,?_⟩) ?_ ?_
       rotate_left
       ·intro w'
        go_simp
        with_reducible rfl
       rotate_left
       ·simp only [czP]
        rfl
       refine take_ (i := 7) (N := some 40) (v := ?_) (a' := ?_) #[true,true,true,true,true,true,true,true,false,false] rfl rfl (take_ofW HT_.out HW_.out (by kernel_rfl)) (fun _ _ _ h => h) (Or.inl ⟨by rfl,?_⟩) hHeld ?_ ?_
       rotate_left
       ·rintro w' ⟨s0,s1,s2,s3⟩
        go_simp
        with_reducible rfl
       rotate_left
       ·simp only [czP]
        rfl
       refine pure_ (i := 8) (N := some 41) (v := ?_) (a' := ?_) #[true,true,true,true,true,true,true,true,true,false] rfl rfl (any_of HT_.out (by kernel_rfl)) (fun _ _ _ h => h) (Or.inl ⟨by rfl,?_⟩) ?_ ?_
       rotate_left
       ·intro w'
        go_simp
        with_reducible rfl
       rotate_left
       ·simp only [czP]
        rfl
       refine pure_ (i := 9) (N := some 32) (v := ?_) (a' := ?_) #[true,true,true,true,true,true,true,true,true,true] rfl rfl (any_of HT_.out (by kernel_rfl)) (fun _ _ _ h => h) (Or.inl ⟨by rfl,?_⟩) ?_ ?_
       rotate_left
       ·intro w'
        go_simp
        with_reducible rfl
       rotate_left
       ·simp only [czP]
        rfl
       refine done_ (done_of HT_.out (by kernel_rfl)) ?_
       try go_wp2
       have ao := mkA (Kd.R_drew HO_5.out);have aq := mkA (blk_drew ae.out);have ar := mkA (below_drew1 HB.out);clear HO_5;clear ae;clear HB;have HO_5 := ao;have ae := aq;have HB := ar;clear ao aq ar;have aI : 0 ≤ (ad : Int) := of_decide_eq_true Z11x2;have aJ : ad < (l0.length : Int) := of_decide_eq_true Z11x2;obtain ⟨aV,bk,aj,ak⟩ := at_T70 bh.out ad aI aJ;have au := ak;have av := aj;obtain rfl : ag = aV := (by injection bk);replace aj := czB HB.out aj;replace ak := czB HB.out ak;replace aI := eq_true aI;replace aJ := eq_true aJ;refine start_ (n := 10) (S := fun w' => w'.cell? ⟨af,0,none⟩ = some (vi ab) ∧ w'.cell? ⟨af,1,none⟩ = some (vi aa) ∧ w'.cell? (ag.add ((ad).toNat * 2)) = some (vi ((rd_T70 l0 ad).f0)) ∧ w'.cell? ⟨(ag.add ((ad).toNat * 2)).block,(ag.add ((ad).toNat * 2)).off + 1,none⟩ = some (vi ((rd_T70 l0 ad).f1))) (ds := []) #[false,false,false,false,false,false,false,false,false,false] (by kernel_rfl) rfl rfl ⟨(blk_cell ae.out 0).trans rfl,(blk_cell ae.out 1).trans rfl,((HB.out.cell (World.block_lt_of_cell? w _ av)).trans av),((HB.out.cell (World.block_lt_of_cell? w _ au)).trans au)⟩ (fun hHeld => ?_);refine with_tabW spec_l5Put.tab9 spec_l5Put.bits9 (fun HT_ HW_ => ?_);generalize cO.drew = cP at HO_5 ae HB aj ak hHeld ⊢;refine pure_ (i := 0) (N := some 50) (v := ?_) (a' := ?_) #[true,false,false,false,false,false,false,false,false,false] rfl rfl (any_of HT_.out (by kernel_rfl)) (fun _ _ _ h => h) (Or.inl ⟨by rfl,?_⟩) ?_ ?_
       rotate_left
       ·intro w'
        go_simp
        with_reducible rfl
       rotate_left
       ·simp only [czP]
        rfl
       refine pure_ (i := 1) (N := some 51) (v := ?_) (a' := ?_) #[true,true,false,false,false,false,false,false,false,false] rfl rfl (any_of HT_.out (by kernel_rfl)) (fun _ _ _ h => h) (Or.inl ⟨by rfl,?_⟩) ?_ ?_
       rotate_left
       ·intro w'
        go_simp
        with_reducible rfl
       rotate_left
       ·simp only [czP]
        rfl
       refine pure_ (i := 2) (N := some 52) (v := ?_) (a' := ?_) #[true,true,true,false,false,false,false,false,false,false] rfl rfl (any_of HT_.out (by kernel_rfl)) (fun _ _ _ h => h) (Or.inl ⟨by rfl,?_⟩) ?_ ?_
       rotate_left
       ·intro w'
        go_simp
        with_reducible rfl
       rotate_left
       ·simp only [czP]
        rfl
       refine pure_ (i := 3) (N := some 53) (v := ?_) (a' := ?_) #[true,true,true,true,false,false,false,false,false,false] rfl rfl (any_of HT_.out (by kernel_rfl)) (fun _ _ _ h => h) (Or.inl ⟨by rfl,?_⟩) ?_ ?_
       rotate_left
       ·intro w'
        go_simp
        with_reducible rfl
       rotate_left
       ·simp only [czP]
        rfl
       refine pure_ (i := 5) (N := some 55) (v := ?_) (a' := ?_) #[true,true,true,true,false,true,false,false,false,false] rfl rfl (any_of HT_.out (by kernel_rfl)) (fun _ _ _ h => h) (Or.inl ⟨by rfl,?_⟩) ?_ ?_
       rotate_left
       ·intro w'
        go_simp
        with_reducible rfl
       rotate_left
       ·simp only [czP]
        rfl
       refine take_ (i := 4) (N := some 54) (v := ?_) (a' := ?_) #[true,true,true,true,true,true,false,false,false,false] rfl rfl (take_ofW HT_.out HW_.out (by kernel_rfl)) (fun _ _ _ h => h) (Or.inl ⟨by rfl,?_⟩) hHeld ?_ ?_
       rotate_left
       ·rintro w' ⟨s0,s1,s2,s3⟩
        go_simp
        with_reducible rfl
       rotate_left
       ·simp only [czP]
        rfl
       refine take_ (i := 6) (N := some 56) (v := ?_) (a' := ?_) #[true,true,true,true,true,true,true,false,false,false] rfl rfl (take_ofW HT_.out HW_.out (by kernel_rfl)) (fun _ _ _ h => h) (Or.inl ⟨by rfl,?_⟩) hHeld ?_ ?_
       rotate_left
       ·rintro w' ⟨s0,s1,s2,s3⟩
        go_simp
        with_reducible rfl
       rotate_left
       ·simp only [czP]
        rfl
       refine pure_ (i := 7) (N := some 57) (v := ?_) (a' := ?_) #[true,true,true,true,true,true,true,true,false,false] rfl rfl (any_of HT_.out (by kernel_rfl)) (fun _ _ _ h => h) (Or.inl ⟨by rfl,?_⟩) ?_ ?_
       rotate_left
       ·intro w'
        go_simp
        with_reducible rfl
       rotate_left
       ·simp only [czP]
        rfl
       refine pure_ (i := 8) (N := some 58) (v := ?_) (a' := ?_) #[true,true,true,true,true,true,true,true,true,false] rfl rfl (any_of HT_.out (by kernel_rfl)) (fun _ _ _ h => h) (Or.inl ⟨by rfl,?_⟩) ?_ ?_
       rotate_left
       ·intro w'
        go_simp
        with_reducible rfl
       rotate_left
       ·simp only [czP]
        rfl
       refine pure_ (i := 9) (N := some 49) (v := ?_) (a' := ?_) #[true,true,true,true,true,true,true,true,true,true] rfl rfl (any_of HT_.out (by kernel_rfl)) (fun _ _ _ h => h) (Or.inl ⟨by rfl,?_⟩) ?_ ?_
       rotate_left
       ·intro w'
        go_simp
        with_reducible rfl
       rotate_left
       ·simp only [czP]
        rfl
       refine done_ (done_of HT_.out (by kernel_rfl)) ?_
       try go_wp2
       have ao := mkA (Kd.R_drew HO_5.out);have aq := mkA (blk_drew ae.out);have ar := mkA (below_drew1 HB.out);clear HO_5;clear ae;clear HB;have HO_5 := ao;have ae := aq;have HB := ar;clear ao aq ar;have b0 : 0 ≤ (ad : Int) := of_decide_eq_true Z11x2;have b1 : ad < (l0.length : Int) := of_decide_eq_true Z11x2;obtain ⟨bQ,ct,aC,aD⟩ := at_T70 bh.out ad b0 b1;have ay := aD;have az := aC;obtain rfl : ag = bQ := (by injection ct);replace aC := czB HB.out aC;replace aD := czB HB.out aD;replace b0 := eq_true b0;replace b1 := eq_true b1;have b2 : 0 ≤ (ad : Int) := of_decide_eq_true Z11x2;have b3 : ad < (l0.length : Int) := of_decide_eq_true Z11x2;obtain ⟨bR,cu,aE,aG⟩ := at_T70 bh.out ad b2 b3;have a1 := aG;have a6 := aE;obtain rfl : ag = bR := (by injection cu);replace aE := czB HB.out aE;replace aG := czB HB.out aG;replace b2 := eq_true b2;replace b3 := eq_true b3;refine start_ (n := 18) (S := fun w' => w'.cell? ⟨af,0,none⟩ = some (vi ab) ∧ w'.cell? ⟨af,1,none⟩ = some (vi aa) ∧ w'.cell? (ag.add ((ad).toNat * 2)) = some (vi ((rd_T70 l0 ad).f0)) ∧ w'.cell? ⟨(ag.add ((ad).toNat * 2)).block,(ag.add ((ad).toNat * 2)).off + 1,none⟩ = some (vi ((rd_T70 l0 ad).f1)) ∧ w'.cell? (ag.add ((ad).toNat * 2)) = some (vi ((rd_T70 l0 ad).f0)) ∧ w'.cell? ⟨(ag.add ((ad).toNat * 2)).block,(ag.add ((ad).toNat * 2)).off + 1,none⟩ = some (vi ((rd_T70 l0 ad).f1))) (ds := [17]) #[false,false,false,false,false,false,false,false,false,false,false,false,false,false,false,false,false,false] (by kernel_rfl) rfl rfl ⟨(blk_cell ae.out 0).trans rfl,(blk_cell ae.out 1).trans rfl,((HB.out.cell (World.block_lt_of_cell? w _ az)).trans az),((HB.out.cell (World.block_lt_of_cell? w _ ay)).trans ay),((HB.out.cell (World.block_lt_of_cell? w _ a6)).trans a6),((HB.out.cell (World.block_lt_of_cell? w _ a1)).trans a1)⟩ (fun hHeld => ?_);refine with_tabW spec_l5Put.tab6 spec_l5Put.bits6 (fun HT_ HW_ => ?_);generalize cP.drew = cC at HO_5 ae HB aC aD aE aG hHeld ⊢;refine pure_ (i := 0) (N := some 15) (v := ?_) (a' := ?_) #[true,false,false,false,false,false,false,false,false,false,false,false,false,false,false,false,false,false] rfl rfl (any_of HT_.out (by kernel_rfl)) (fun _ _ _ h => h) (Or.inl ⟨by rfl,?_⟩) ?_ ?_
       rotate_left
       ·intro w'
        go_simp
        with_reducible rfl
       rotate_left
       ·simp only [czP]
        rfl
       refine pure_ (i := 2) (N := some 17) (v := ?_) (a' := ?_) #[true,false,true,false,false,false,false,false,false,false,false,false,false,false,false,false,false,false] rfl rfl (any_of HT_.out (by kernel_rfl)) (fun _ _ _ h => h) (Or.inl ⟨by rfl,?_⟩) ?_ ?_
       rotate_left
       ·intro w'
        go_simp
        with_reducible rfl
       rotate_left
       ·simp only [czP]
        rfl
       refine pure_ (i := 3) (N := some 18) (v := ?_) (a' := ?_) #[true,false,true,true,false,false,false,false,false,false,false,false,false,false,false,false,false,false] rfl rfl (any_of HT_.out (by kernel_rfl)) (fun _ _ _ h => h) (Or.inl ⟨by rfl,?_⟩) ?_ ?_
       rotate_left
       ·intro w'
        go_simp
        with_reducible rfl
       rotate_left
       ·simp only [czP]
        rfl
       refine pure_ (i := 4) (N := some 19) (v := ?_) (a' := ?_) #[true,false,true,true,true,false,false,false,false,false,false,false,false,false,false,false,false,false] rfl rfl (any_of HT_.out (by kernel_rfl)) (fun _ _ _ h => h) (Or.inl ⟨by rfl,?_⟩) ?_ ?_
       rotate_left
       ·intro w'
        go_simp
        with_reducible rfl
       rotate_left
       ·simp only [czP]
        rfl
       refine pure_ (i := 5) (N := some 20) (v := ?_) (a' := ?_) #[true,false,true,true,true,true,false,false,false,false,false,false,false,false,false,false,false,false] rfl rfl (any_of HT_.out (by kernel_rfl)) (fun _ _ _ h => h) (Or.inl ⟨by rfl,?_⟩) ?_ ?_
       rotate_left
       ·intro w'
        go_simp
        with_reducible rfl
       rotate_left
       ·simp only [czP]
        rfl
       refine pure_ (i := 8) (N := some 23) (v := ?_) (a' := ?_) #[true,false,true,true,true,true,false,false,true,false,false,false,false,false,false,false,false,false] rfl rfl (any_of HT_.out (by kernel_rfl)) (fun _ _ _ h => h) (Or.inl ⟨by rfl,?_⟩) ?_ ?_
       rotate_left
       ·intro w'
        go_simp
        with_reducible rfl
       rotate_left
       ·simp only [czP]
        rfl
       refine pure_ (i := 10) (N := some 25) (v := ?_) (a' := ?_) #[true,false,true,true,true,true,false,false,true,false,true,false,false,false,false,false,false,false] rfl rfl (any_of HT_.out (by kernel_rfl)) (fun _ _ _ h => h) (Or.inl ⟨by rfl,?_⟩) ?_ ?_
       rotate_left
       ·intro w'
        go_simp
        with_reducible rfl
       rotate_left
       ·simp only [czP]
        rfl
       refine pure_ (i := 11) (N := some 26) (v := ?_) (a' := ?_) #[true,false,true,true,true,true,false,false,true,false,true,true,false,false,false,false,false,false] rfl rfl (any_of HT_.out (by kernel_rfl)) (fun _ _ _ h => h) (Or.inl ⟨by rfl,?_⟩) ?_ ?_
       rotate_left
       ·intro w'
        go_simp
        with_reducible rfl
       rotate_left
       ·simp only [czP]
        rfl
       refine pure_ (i := 12) (N := some 27) (v := ?_) (a' := ?_) #[true,false,true,true,true,true,false,false,true,false,true,true,true,false,false,false,false,false] rfl rfl (any_of HT_.out (by kernel_rfl)) (fun _ _ _ h => h) (Or.inl ⟨by rfl,?_⟩) ?_ ?_
       rotate_left
       ·intro w'
        go_simp
        with_reducible rfl
       rotate_left
       ·simp only [czP]
        rfl
       refine pure_ (i := 13) (N := some 28) (v := ?_) (a' := ?_) #[true,false,true,true,true,true,false,false,true,false,true,true,true,true,false,false,false,false] rfl rfl (any_of HT_.out (by kernel_rfl)) (fun _ _ _ h => h) (Or.inl ⟨by rfl,?_⟩) ?_ ?_
       rotate_left
       ·intro w'
        go_simp
        with_reducible rfl
       rotate_left
       ·simp only [czP]
        rfl
       refine take_ (i := 1) (N := some 16) (v := ?_) (a' := ?_) #[true,true,true,true,true,true,false,false,true,false,true,true,true,true,false,false,false,false] rfl rfl (take_ofW HT_.out HW_.out (by kernel_rfl)) (fun _ _ _ h => h) (Or.inl ⟨by rfl,?_⟩) hHeld ?_ ?_
       rotate_left
       ·rintro w' ⟨s0,s1,s2,s3,s4,s5⟩
        go_simp
        with_reducible rfl
       rotate_left
       ·simp only [czP]
        rfl
       refine take_ (i := 6) (N := some 21) (v := ?_) (a' := ?_) #[true,true,true,true,true,true,true,false,true,false,true,true,true,true,false,false,false,false] rfl rfl (take_ofW HT_.out HW_.out (by kernel_rfl)) (fun _ _ _ h => h) (Or.inl ⟨by rfl,?_⟩) hHeld ?_ ?_
       rotate_left
       ·rintro w' ⟨s0,s1,s2,s3,s4,s5⟩
        go_simp
        with_reducible rfl
       rotate_left
       ·simp only [czP]
        rfl
       refine take_ (i := 9) (N := some 24) (v := ?_) (a' := ?_) #[true,true,true,true,true,true,true,false,true,true,true,true,true,true,false,false,false,false] rfl rfl (take_ofW HT_.out HW_.out (by kernel_rfl)) (fun _ _ _ h => h) (Or.inl ⟨by rfl,?_⟩) hHeld ?_ ?_
       rotate_left
       ·rintro w' ⟨s0,s1,s2,s3,s4,s5⟩
        go_simp
        with_reducible rfl
       rotate_left
       ·simp only [czP]
        rfl
       refine take_ (i := 14) (N := some 29) (v := ?_) (a' := ?_) #[true,true,true,true,true,true,true,false,true,true,true,true,true,true,true,false,false,false] rfl rfl (take_ofW HT_.out HW_.out (by kernel_rfl)) (fun _ _ _ h => h) (Or.inl ⟨by rfl,?_⟩) hHeld ?_ ?_
       rotate_left
       ·rintro w' ⟨s0,s1,s2,s3,s4,s5⟩
        go_simp
        with_reducible rfl
       rotate_left
       ·simp only [czP]
        rfl
       refine one_ (i := 7) (N := some 22) #[true,true,true,true,true,true,true,true,true,true,true,true,true,true,true,false,false,false] rfl rfl (one_of HT_.out (by kernel_rfl)) (by decide) (fun K hK => ?_);refine goes_ Try.func108 (by kernel_rfl) rfl #[vi ab,vi ((rd_T70 l0 ad).f0)] (by rfl) rfl rfl (by (try simp only [List.map_toArray,List.map_cons,List.map_nil]);first | done | rfl | (simp only [List.length_drop,List.length_take];rfl)) ?_
       with_reducible refine (spec_l1Min.calls ab ((rd_T70 l0 ad).f0) bg _ cM.out).mono ?_
       rintro e w' ⟨rfl,⟨nd,rfl⟩⟩
       refine ⟨_,rfl,?_⟩;refine hK.out _ _ ⟨(blk_cell ae.out 0).trans rfl,(blk_cell ae.out 1).trans rfl,((HB.out.cell (World.block_lt_of_cell? w _ az)).trans az),((HB.out.cell (World.block_lt_of_cell? w _ ay)).trans ay),((HB.out.cell (World.block_lt_of_cell? w _ a6)).trans a6),((HB.out.cell (World.block_lt_of_cell? w _ a1)).trans a1)⟩ (fun hHeld => ?_);clear hK K;refine norm_ (a' := ?_) ?_ ?_
       rotate_left
       ·show Act.put _ (some 22) _ = _
        simp only [czP]
        rfl
       refine one_ (i := 15) (N := some 30) #[true,true,true,true,true,true,true,true,true,true,true,true,true,true,true,true,false,false] rfl rfl (one_of HT_.out (by kernel_rfl)) (by decide) (fun K hK => ?_);refine goes_ Try.func109 (by kernel_rfl) rfl #[vi aa,vi ((rd_T70 l0 ad).f1)] (by rfl) rfl rfl (by (try simp only [List.map_toArray,List.map_cons,List.map_nil]);first | done | rfl | (simp only [List.length_drop,List.length_take];rfl)) ?_
       with_reducible refine (spec_l1Max.calls aa ((rd_T70 l0 ad).f1) bj _ cN.out).mono ?_
       rintro e w' ⟨rfl,⟨nd,rfl⟩⟩
       refine ⟨_,rfl,?_⟩;refine hK.out _ _ ⟨(blk_cell ae.out 0).trans rfl,(blk_cell ae.out 1).trans rfl,((HB.out.cell (World.block_lt_of_cell? w _ az)).trans az),((HB.out.cell (World.block_lt_of_cell? w _ ay)).trans ay),((HB.out.cell (World.block_lt_of_cell? w _ a6)).trans a6),((HB.out.cell (World.block_lt_of_cell? w _ a1)).trans a1)⟩ (fun hHeld => ?_);clear hK K;refine norm_ (a' := ?_) ?_ ?_
       rotate_left
       ·show Act.put _ (some 30) _ = _
        simp only [czP]
        rfl
       refine pure_ (i := 16) (N := some 31) (v := ?_) (a' := ?_) #[true,true,true,true,true,true,true,true,true,true,true,true,true,true,true,true,true,false] rfl rfl (any_of HT_.out (by kernel_rfl)) (fun _ _ _ h => h) (Or.inl ⟨by rfl,?_⟩) ?_ ?_
       rotate_left
       ·intro w'
        go_simp
        with_reducible rfl
       rotate_left
       ·simp only [czP]
        rfl
       refine last_ (i := 17) (N := none) #[true,true,true,true,true,true,true,true,true,true,true,true,true,true,true,true,true,true] rfl rfl (one_of HT_.out (by kernel_rfl)) (by decide) (fun K hK => ?_);have cQ : cC.cell? ⟨af,0,none⟩ = some (vi ab) := (blk_cell ae.out 0).trans rfl;have cD := blk_frozen ae.out 0;have cR : cC.cell? ⟨af,1,none⟩ = some (vi aa) := (blk_cell ae.out 1).trans rfl;have cE := blk_frozen ae.out 1;refine skip_ (w1 := ?_) (by rfl) rfl ?_ ?_
       rotate_left
       ·go_simp
        rfl
       refine hK.out _ _ ?_;clear hK K;refine done_ (done_of HT_.out (by kernel_rfl)) ?_
       try go_wp2
       go_roundg k1
       case measure => have := bp.out;omega
       case rel => exact ⟨(a7),(aR),(wrap64 (ad + 1)),(bg),(bj),Z11x3,Z11x3,H',⟨by have := bp.out;omega⟩,⟨by (with_reducible repeat (first | apply Kd.R_alloc | apply Kd.R_drewN | apply Kd.R_drew));exact Kd.R_mono (Kd.R_far (p := ⟨af,1,none⟩) (Kd.R_far (p := ⟨af,0,none⟩) (Kd.R_mono HO_5.out (fun k_ hk => (⟨hk,hk⟩ : _ ∧ k_ ≠ af))) (fun _ hk => hk.2) (vi bg)) (fun _ hk => hk.2) (vi bj)) (fun _ hk => hk.1)⟩,⟨by (with_reducible repeat (first | refine blk_drewN ?_ _ | refine blk_drew ?_ | refine blk_alloc ?_ _));refine blk_put (cs := #[vi bg,vi aa]) ?_ 1 _ rfl;(with_reducible repeat (first | refine blk_drewN ?_ _ | refine blk_drew ?_ | refine blk_alloc ?_ _));refine blk_put (cs := #[vi ab,vi aa]) ?_ 0 _ rfl;(with_reducible repeat (first | refine blk_drewN ?_ _ | refine blk_drew ?_ | refine blk_alloc ?_ _));exact ae.out⟩,⟨Z11x0⟩⟩
    ·rw [if_neg c7] at H
     exact absurd H (by simp)
   ·rw [if_neg c6] at H
    have c6b0 : decide (ad < (l0.length : Int)) = false := decide_eq_false c6;clear c6
    by_cases cc : aR = true
    ·subst cc
     rw [if_pos rfl] at H;obtain rfl := Option.some.inj H;simp only [Option.some.injEq,Prod.mk.injEq] at H;obtain ⟨rfl⟩ := H
     go_wp2
     go_ret
     exact ⟨_,by first | rfl | (simp [errW_none,errW_some] <;> rfl) | (simp [*,errW_none,errW_some] <;> rfl),by (with_reducible repeat (first | apply Kd.R_alloc | apply Kd.R_drewN | apply Kd.R_drew));exact Kd.R_mono HO_5.out (fun _ hk => trivial),Z11x0⟩
    ·replace cc := Bool.eq_false_iff.mpr cc
     subst cc;rw [if_neg (show ¬ (false = true) by decide)] at H
     by_cases cd : a7.length < 8796093022208
     ·rw [if_pos cd] at H
      have bS := mkA cd;clear cd;obtain ⟨cv,aY⟩ : ∃ y_ : List (S70),y_ = (a7 ++ [(⟨ab,aa⟩ : S70)]) := ⟨_,rfl⟩
      replace H : (some cv) = some r := by first | (rw [aY];with_reducible exact H) | (have aH := (Option.bind_some _ _).symm.trans H;rw [aY];with_reducible exact aH) | (have aH := (Option.bind_some _ _).symm.trans H;with_reducible exact aH) | with_reducible exact H | (rw [aY];exact H) | exact H
      have bT := mkA aY;clear aY;obtain rfl := Option.some.inj H;simp only [Option.some.injEq,Prod.mk.injEq] at H;obtain ⟨rfl⟩ := H;have cf : wr.cell? ⟨af,0,none⟩ = some (vi ab) := (blk_cell ae.out 0).trans rfl;have cg : wr.cell? ⟨af,1,none⟩ = some (vi aa) := (blk_cell ae.out 1).trans rfl;have ch := blk_frozen ae.out 0;have cj := blk_frozen ae.out 1
      go_wp2_with (first | ((with_reducible refine gate_builtin (b := .append) (xs := #[.tmp 74,.tmp 76]) rfl ?_);at_builtin;refine Kd.R_append k70 (w0 := w) w.heap.size rfl (.tmp 74) (.tmp 76) 32 70 (.agg #[(vi 0),(vi 0)]) 16 rfl Try.underlying32 info70 rfl (by decide) (by omega) u5 a7 (⟨ab,aa⟩ : S70) [vi ab,vi aa] (fun k_ => k_ ≠ af) (fun _ => False) rfl rfl ?aP (fun _ hk => hk.elim) ?aF ?aO ?aB ?aS ?aL ?_;(case aP => exact k70_mkM _ _ _ (⟨ab,aa⟩ : S70));(case aB => exact Z11x0);(case aF => exact (fun k_ hk => Kd.freshB (g := af) (o := .cells #[vi ab,vi aa] 70 (0,0)) Z11x1 k_ hk));(case aO => exact Z11x4);(case aS => exact (below_size Z11x0));(case aL => have := bS.out;omega);intro cS c_ ho hb hg hat;rw [← bT.out] at ho;have ao := mkA (blk_grown (g := af) (o := .cells #[vi ab,vi aa] 70 (0,0)) Z11x1 hg (Kd.R_away HO_5.out (fun _ hk => hk)));have aq := mkA (hb);have ar := mkA (ho);clear ae;clear HB;clear HO_5;have ae := ao;have HB := aq;have bU := ar;clear ao aq ar;clear ho hb hg hat))
      go_ret
      exact ⟨_,by first | rfl | (simp [errW_none,errW_some] <;> rfl) | (simp [*,errW_none,errW_some] <;> rfl),by (with_reducible repeat (first | apply Kd.R_alloc | apply Kd.R_drewN | apply Kd.R_drew));exact Kd.R_mono bU.out (fun _ hk => trivial),Z11x0⟩
     ·rw [if_neg cd] at H
      exact absurd H (by simp)

end Go.Proofs.Ytdciagkholijlaa.PFnEntries
